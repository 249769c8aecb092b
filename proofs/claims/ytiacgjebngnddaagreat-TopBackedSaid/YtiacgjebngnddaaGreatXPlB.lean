/-
  The plain lemmas.
-/
import Derived.Test.YtiacgjebngnddaaGreatXAbInsert
import Derived.Test.YtiacgjebngnddaaGreatXFBank
import Derived.Test.YtiacgjebngnddaaGreatXFCodec
import Derived.Test.YtiacgjebngnddaaGreatXFCons
import Derived.Test.YtiacgjebngnddaaGreatXFLine
import Derived.Test.YtiacgjebngnddaaGreatXFProv
import Derived.Test.YtiacgjebngnddaaGreatXFStakeA
import Derived.Test.YtiacgjebngnddaaGreatXFStakeB
import Derived.Test.YtiacgjebngnddaaGreatXFTop
import Derived.Test.YtiacgjebngnddaaGreatXFWld
import Derived.Test.YtiacgjebngnddaaGreatXPlA
namespace Go.Proofs.YtiacgjebngnddaaGreat.Ab
open Go Go.RowKit
open Go.IntKind (i64 u64)
set_option linter.unusedVariables false
set_option linter.unusedSimpArgs false
def zlz (l:List Power) (id now:Int):zc:=⟨true,false,0,now,id,l,[],[],⟨false,false,false,false,false,false⟩,⟨[],[],0,false⟩,⟨0,0,0,0⟩⟩
theorem zak3 {l:List Power} {id now:Int} (hl:l.length*16≤140737488355328):zgp l id now=some (zlz l id now):=by
 rw[zgp,zlh,Tr.rb (zaeh hl),Tr.rl];rfl
def ztd (c:zc) (s:List UInt8):zc×Int :=
 if zin c=false then (c,2) else if c.On=false then (c,4) else if (zau s).2≠0 then (c,(zau s).2) else if (zau s).1.Kind≠1 then (c,3)
 else ({ c with Pending:=c.Pending++[(zau s).1] },0)
theorem zapq {c:zc} {a:ByteArray} (h:FitC 140737488351232 c) (ha:a.size≤140737488355328):zhr c a=some (ztd c a.data.toList):=by
 have e1:zeo a=some (zau a.data.toList):=z8a (s:=a.data.toList) (by have:a.data.toList.length=a.size:=rfl;omega)
 have e2:=h.pend
 rw[zhr,znb,Tr.rb e1,Tr.rb (zrh h)]
 simp only[zaei (l:=c.Pending) (by omega),Option.isSome_some,yy2]
 unfold ztd
 cases hg:zin c with
 | false=>rw[Tr.rt (by rfl),Tr.rl,if_pos rfl]
 | true =>
  rw[Tr.rf (by rfl),if_neg (by simp)]
  cases ho:c.On with
  | false=>rw[Tr.rt (by rfl),Tr.rl,if_pos rfl]
  | true =>
   rw[Tr.rf (by rfl),if_neg (by simp)]
   by_cases hd:(zau a.data.toList).2=0
   ·rw[Tr.rf (by simpa using hd),if_neg (by simpa using hd)]
    by_cases hk:(zau a.data.toList).1.Kind=1
    ·rw[Tr.rf (by simpa using hk),if_neg (by simpa using hk),Tr.rg (by trivial),Tr.rg (by simp only[zfo,yy5];omega),Tr.rl]
    ·rw[Tr.rt (by simpa using hk),if_pos hk,Tr.rl]
   ·rw[Tr.rt (by simpa using hd),if_pos hd,Tr.rl]
def zr2 (p:Packet) (now:Int) (c:zc):Int×zc :=
 if (zgh p).2≠0 then ((zgh p).2,c)
 else if (z53 c.Out (zgh p).1 (i64.wrap (now+40))).2≠0 then ((z53 c.Out (zgh p).1 (i64.wrap (now+40))).2,c)
 else (0,{ c with Out:=(z53 c.Out (zgh p).1 (i64.wrap (now+40))).1 })
theorem zacu {p:Packet} {now:Int} {c:zc} (h:(zr2 p now c).1≠0):(zr2 p now c).2=c:=by
 unfold zr2 at h ⊢
 split
 ·rfl
 ·split
  ·rfl
  ·rename_i h1 h2
   rw[if_neg h1,if_neg h2] at h
   exact absurd rfl h
theorem z39 {p:Packet} {now:Int} {c:zc}:(zr2 p now c).2.Ripes=c.Ripes:=by
 unfold zr2
 repeat' split
 all_goals rfl
theorem zacv {p:Packet} {now:Int} {c:zc} (h1:p.Set.length*16≤140737488351232) (h2:p.Done.length*8≤140737488351232):zbb p now c=some (zr2 p now c):=by
 rw[zbb,zpb,Tr.rb (z1h h1 h2)]
 unfold zr2
 by_cases he:(zgh p).2=0
 ·rw[if_neg (by simpa using he),Tr.rf (by simpa using he),Tr.rb (zamq _ _ _)]
  by_cases hs:(z53 c.Out (zgh p).1 (i64.wrap (now+40))).2=0
  ·rw[if_neg (by simpa using hs),Tr.rf (by simpa using hs),Tr.rl]
  ·rw[if_pos hs,Tr.rt (by simpa using hs),Tr.rl]
 ·rw[if_pos he,Tr.rt (by simpa using he),Tr.rl]
def clrC (c:zc) (v:Int):zc:={ c with Flags:=c.Flags.set v false }
def z8n (c:zc) (l:List Int):zc:=l.foldl clrC c
theorem z1t:∀ (l:List Int) (c:zc),z8n c l={ c with Flags:=l.foldl (fun f v=>f.set v false) c.Flags }
 | [],c=>rfl
 | v::l,c=>by unfold z8n;rw[List.foldl_cons];exact (z1t l (clrC c v)).trans rfl
def zmk (now:Int) (c:zc) (p:Packet):zc :=
 { z8n { c with Set:=zon c.Set p.Set,Id:=p.Id } p.Done with Ripes:=(z8n { c with Set:=zon c.Set p.Set,Id:=p.Id } p.Done).Ripes++[⟨p.Id,i64.wrap (now+15)⟩] }
theorem zri (now:Int) (c:zc) (p:Packet) :
  zmk now c p={ c with Set:=zon c.Set p.Set,Id:=p.Id,Flags:=p.Done.foldl (fun f v=>f.set v false) c.Flags,Ripes:=c.Ripes++[⟨p.Id,i64.wrap (now+15)⟩] }:=by
 unfold zmk;rw[z1t]
def zop (now:Int):List Ripe→zc→zc
 | [],c=>c
 | r::rs,c=>if r.Due≤now then (if (zr2 ⟨2,r.Id,0,0,[],[]⟩ now c).1≠0 then c else zop now rs { (zr2 ⟨2,r.Id,0,0,[],[]⟩ now c).2 with Ripes:=rs }) else c
def zxh (now:Int) (c:zc):zc×Int :=
 if zin c=false then (c,2) else if c.On=false then (c,4) else if now < c.Time∨1099511627776 < now then (c,2)
 else (zop now (c.Pending.foldl (zmk now) { c with Height:=i64.wrap (c.Height+1),Time:=now }).Ripes { c.Pending.foldl (zmk now) { c with Height:=i64.wrap (c.Height+1),Time:=now } with Pending:=[] },0)
theorem zat7 {now x2 x3:Int} {x1:List Packet} {l:List Int} {c z:zc} {p:Packet} (hl:l.length≤9223372036854775807) (hv:∀ v,v∈l→0≤v∧v≤5) :
  zi6 now x1 x2 x3 l l.length 0 c z p=some (now,x1,x2,x3,z8n c l,z,p):=by
 rw[zi6]
 refine zjd (F:=fun s:Int×(List Packet)×Int×Int×(List Int)×Int×Int×zc×zc×Packet=>(zer s.1 s.2.1 s.2.2.1 s.2.2.2.1 s.2.2.2.2.1 s.2.2.2.2.2.1 s.2.2.2.2.2.2.1 s.2.2.2.2.2.2.2.1 s.2.2.2.2.2.2.2.2.1 s.2.2.2.2.2.2.2.2.2).run) l 0
  (fun i t=>(now,x1,x2,x3,l,(l.length:Int),(i:Int),t,z,p)) (fun _ _=>True) clrC (fun t=>(now,x1,x2,x3,t,z,p)) ?_ ?_ c trivial
 ·intro t _
  simp only[zer];rw[Tr.rf (by simp),Tr.rl]
 ·intro i t hi _
  have hm:=hv _ (zf0 (l:=l) (k:=i) hi 0)
  refine ⟨?_,trivial⟩
  simp only[zer,yy4]
  rw[Tr.rt (by simpa using hi),Tr.rg ⟨by omega,by rw[znv];omega⟩,Tr.rg (by omega),Tr.rl,zw (by omega)]
  rfl
theorem z1u {l:List Packet} (h:l.all zly=true):∀ p,p∈l→zcz p=0∧p.Kind=1∧(∀ v,v∈p.Done→0≤v∧v≤5):=by
 intro p hp
 have h1:=List.all_eq_true.1 h p hp
 unfold zly at h1
 simp only[yy7,beq_iff_eq] at h1
 obtain ⟨g1,g2,g3,g4,g5,g6,g7,g8,g9,g10,_,_⟩:=zj9 h1.2
 exact ⟨h1.2,h1.1,ztn g10 (by omega)⟩
theorem zat8 {now:Int} {l:List Packet} {c z:zc} (hl:l.length≤9223372036854775807) (hg:l.all zly=true) (hs:c.Set.length≤9223372036854775807)
  (hp:∀ p,p∈l→p.Set.length*16≤140737488351232∧p.Done.length*8≤140737488351232) (hr:(c.Ripes.length+l.length)*16≤140737488355328) :
  zi7 now l l.length 0 c z=some (now,l.foldl (zmk now) c,z):=by
 rw[zi7]
 refine zjd (F:=fun s:Int×(List Packet)×Int×Int×zc×zc=>(zes s.1 s.2.1 s.2.2.1 s.2.2.2.1 s.2.2.2.2.1 s.2.2.2.2.2).run) l default
  (fun i t=>(now,l,(l.length:Int),(i:Int),t,z)) (fun i t=>t.Ripes.length=c.Ripes.length+i∧t.Set.length≤9223372036854775807) (zmk now) (fun t=>(now,t,z)) ?_ ?_ c ⟨rfl,hs⟩
 ·intro t _
  simp only[zes];rw[Tr.rf (by simp),Tr.rl]
 ·intro i t hi ht
  obtain ⟨t1,t2⟩:=ht
  have hm:=zf0 (l:=l) (k:=i) hi default
  obtain ⟨p1,p2⟩:=hp _ hm
  obtain ⟨q1,q2,q3⟩:=z1u hg _ hm
  have hset:=z1d (fun v=>zxa (l.getD i default).Set v (zcu t.Set v))
  refine ⟨?_,by rw[zri];simp only[yy6,yy5];omega,by rw[zri];unfold zon;simp only[];omega⟩
  simp only[zes,yy4]
  rw[Tr.rt (by simpa using hi),Tr.rg ⟨by omega,by rw[zfo];omega⟩,Tr.rb (zaj8 t2 (by omega)),Tr.rb (zat7 (by omega) q3)]
  simp only[]
  rw[Tr.rg (by simp only[zk5,yy5,z1t];omega),Tr.rl,zw (by omega)]
  rfl
theorem zamt {now:Int} {z:zc}:∀ (rs:List Ripe) (c:zc),c.Ripes=rs→zbp now c z=some (zop now rs c,z)
 | [],c,h=>by
  rw[zbp]
  refine zda ?_
  simp only[zc4,h]
  rw[Tr.rg (by simp),Tr.rf (by simp),Tr.rl]
  rfl
 | r::rs,c,h=>by
  have hlen:(Sl.len (.ripes (r::rs)))=rs.length+1:=rfl
  unfold zop
  by_cases hd:r.Due≤now
  ·rw[if_pos hd]
   by_cases hs:(zr2 ⟨2,r.Id,0,0,[],[]⟩ now c).1=0
   ·rw[if_neg (by simpa using hs),← zamt rs { (zr2 ⟨2,r.Id,0,0,[],[]⟩ now c).2 with Ripes:=rs } rfl,zbp,zbp]
    refine zbs ?_
    simp only[zc4,h,List.getD_cons_zero,hlen,z39]
    rw[Tr.rg (by intro _;exact ⟨⟨by omega,by omega⟩,trivial⟩),Tr.rt (by simp[hd]),Tr.rg (by omega),Tr.rb (zacv (by simp) (by simp)),Tr.rf (by simpa using hs)]
    simp only[z39,h,hlen]
    rw[Tr.rg (by omega),Tr.rl]
    simp only[List.drop_succ_cons,List.drop_zero,yy4,Nat.add_sub_cancel,List.take_length]
   ·rw[if_pos hs,zbp]
    refine zda ?_
    simp only[zc4,h,List.getD_cons_zero,hlen]
    rw[Tr.rg (by intro _;exact ⟨⟨by omega,by omega⟩,trivial⟩),Tr.rt (by simp[hd]),Tr.rg (by omega),Tr.rb (zacv (by simp) (by simp)),Tr.rt (by simpa using hs),Tr.rl,zacu hs]
  ·rw[if_neg hd,zbp]
   refine zda ?_
   simp only[zc4,h,List.getD_cons_zero,hlen]
   rw[Tr.rg (by intro _;exact ⟨⟨by omega,by omega⟩,trivial⟩),Tr.rf (by simp[hd]),Tr.rl]
theorem zbt {c:zc} (h:zin c=true):zaaw c∧zd1 c.Out∧zx 1 (-1) c.Set=true∧c.Ripes.all zjg=true∧c.Pending.all zly=true:=by
 unfold zin at h
 simp only[yy7,decide_eq_true_eq] at h
 exact ⟨h.1.1.1.1,h.1.1.1.2,h.1.1.2,h.1.2,h.2⟩
theorem zat9 {now:Int} {c:zc} (h:FitC 140737488351232 c) (hr:(c.Ripes.length+c.Pending.length)*16≤140737488355328):zv c now=some (zxh now c):=by
 have e1:=h.set;have e2:=h.pend;have e3:=h.ripes
 rw[zv,zpc,Tr.rb (zrh h)]
 unfold zxh
 cases hg:zin c with
 | false=>rw[Tr.rt (by rfl),Tr.rl,if_pos rfl]
 | true =>
  obtain ⟨_,_,_,_,hp⟩:=zbt hg
  rw[Tr.rf (by rfl),if_neg (by simp)]
  cases ho:c.On with
  | false=>rw[Tr.rt (by rfl),Tr.rl,if_pos rfl]
  | true =>
   rw[Tr.rf (by rfl),if_neg (by simp)]
   by_cases ht:now < c.Time∨1099511627776 < now
   ·rw[if_pos ht,Tr.rt (by simpa using ht),Tr.rl]
   ·rw[if_neg ht,Tr.rf (by simp;omega),Tr.rb (zaej (by omega))]
    rw[Tr.rb (zat8 (by omega) hp (by simp only[];omega) h.ps (by simp only[];omega))]
    simp only[]
    rw[Tr.rb (zamt _ _ rfl),Tr.rl]<;>first | rw[ho] | rfl
theorem zuq {now:Int}:∀ (l:List Packet) (c:zc),(l.foldl (zmk now) c).Ripes.length=c.Ripes.length+l.length∧(l.foldl (zmk now) c).Out=c.Out∧(l.foldl (zmk now) c).On=c.On∧(l.foldl (zmk now) c).Gone=c.Gone∧(l.foldl (zmk now) c).Height=c.Height∧(l.foldl (zmk now) c).Time=c.Time
 | [],c=>⟨rfl,rfl,rfl,rfl,rfl,rfl⟩
 | p::l,c=>by
  rw[List.foldl_cons]
  obtain ⟨h1,h2,h3,h4,h5,h6⟩:=zuq l (zmk now c p)
  rw[zri] at h1 h2 h3 h4 h5 h6 ⊢
  refine ⟨?_,h2,h3,h4,h5,h6⟩
  rw[h1]
  show (c.Ripes++[(⟨p.Id,i64.wrap (now+15)⟩:Ripe)]).length+l.length=_
  rw[yy6,yy5,List.length_cons]
  omega
theorem z4a:∀ {l:List Power} {p v:Int},zx 1 p l=true→zcu l v=0∨1≤zcu l v
 | [],_,_,_=>.inl rfl
 | a::l,p,v,h=>by
  rw[zx] at h
  simp only[yy7,decide_eq_true_eq] at h
  unfold zcu
  split
  ·exact .inr h.1.1.2
  ·exact z4a h.2
def z1v (c:zc) (v now:Int):zc×Int :=
 if zin c=false∨now < 0∨1099511627776 < now then (c,2) else if c.On=false∨v < 0∨5 < v∨zcu c.Set v=0 then (c,4) else if c.Flags.get v=true then (c,5)
 else if (zr2 ⟨3,c.Id,v,zcu c.Set v,[],[]⟩ now c).1≠0 then (c,(zr2 ⟨3,c.Id,v,zcu c.Set v,[],[]⟩ now c).1)
 else ({ (zr2 ⟨3,c.Id,v,zcu c.Set v,[],[]⟩ now c).2 with Flags:=(zr2 ⟨3,c.Id,v,zcu c.Set v,[],[]⟩ now c).2.Flags.set v true },0)
theorem zapr {c:zc} {v now:Int} (h:FitC 140737488351232 c):zdt c v now=some (z1v c v now):=by
 have e1:=h.set
 have hsay:=fun n=>zacv (p:=⟨3,c.Id,v,n,[],[]⟩) (now:=now) (c:=c) (by simp) (by simp)
 rw[zdt,znd,Tr.rb (zrh h)]
 simp only[zact (l:=c.Set) (v:=v) (by omega),hsay,Option.isSome_some,yy2]
 unfold z1v
 by_cases h1:zin c=false∨now < 0∨1099511627776 < now
 ·rw[if_pos h1,Tr.rt (by simpa[or_assoc] using h1),Tr.rl]
 ·rw[if_neg h1,Tr.rf (by rw[Bool.eq_false_iff];intro k;apply h1;simpa[or_assoc] using k),Tr.rg (by simp)]
  by_cases h2:c.On=false∨v < 0∨5 < v∨zcu c.Set v=0
  ·rw[if_pos h2,Tr.rt (by
    simp only[Bool.or_eq_true,Bool.not_eq_true',decide_eq_true_eq,beq_iff_eq]
    rcases h2 with h2 | h2 | h2 | h2
    ·exact .inl (.inl (.inl h2))
    ·exact .inl (.inl (.inr h2))
    ·exact .inl (.inr (by omega))
    ·exact .inr h2),Tr.rl]
  ·simp only[not_or] at h2
   rw[if_neg (by simp only[not_or];exact h2),Tr.rf (by
    simp only[Bool.or_eq_false_iff,Bool.not_eq_false',yy8,beq_eq_false_iff_ne]
    exact ⟨⟨⟨by simpa using h2.1,h2.2.1⟩,by omega⟩,h2.2.2.2⟩),Tr.rg (by omega)]
   by_cases h3:c.Flags.get v=true
   ·rw[if_pos h3,Tr.rt h3,Tr.rl]
   ·rw[if_neg h3,Tr.rf (by simpa using h3),Tr.rg (by trivial),Tr.rg (by trivial)]
    by_cases h4:(zr2 ⟨3,c.Id,v,zcu c.Set v,[],[]⟩ now c).1=0
    ·rw[if_neg (by simpa using h4),Tr.rf (by simpa using h4),Tr.rg (by omega),Tr.rl]
    ·rw[if_pos h4,Tr.rt (by simpa using h4),Tr.rl,zacu h4]
def maxC (c:zc) (v:Int):Int:=if zcu c.Set v=0 then 1 else zcu c.Set v
def zpl (c:zc) (v id now:Int):zc×Int :=
 if zin c=false∨now < 0∨1099511627776 < now then (c,2) else if c.On=false∨v < 0∨5 < v then (c,4) else if id < 1∨c.Id < id then (c,2)
 else ((zr2 ⟨4,id,v,maxC c v,[],[]⟩ now c).2,(zr2 ⟨4,id,v,maxC c v,[],[]⟩ now c).1)
theorem zaht {c:zc} {v id now:Int} (h:FitC 140737488351232 c):zco c v id now=some (zpl c v id now):=by
 have e1:=h.set
 rw[zco,zj1,Tr.rb (zrh h)]
 unfold zpl
 by_cases h1:zin c=false∨now < 0∨1099511627776 < now
 ·rw[if_pos h1,Tr.rt (by simpa[or_assoc] using h1),Tr.rl]
 ·rw[if_neg h1,Tr.rf (by rw[Bool.eq_false_iff];intro k;apply h1;simpa[or_assoc] using k)]
  by_cases h2:c.On=false∨v < 0∨5 < v
  ·rw[if_pos h2,Tr.rt (by
    simp only[Bool.or_eq_true,Bool.not_eq_true',decide_eq_true_eq]
    rcases h2 with h2 | h2 | h2
    ·exact .inl (.inl h2)
    ·exact .inl (.inr h2)
    ·exact .inr (by omega)),Tr.rl]
  ·simp only[not_or] at h2
   rw[if_neg (by simp only[not_or];exact h2),Tr.rf (by
    simp only[Bool.or_eq_false_iff,Bool.not_eq_false',yy8]
    exact ⟨⟨by simpa using h2.1,h2.2.1⟩,by omega⟩)]
   by_cases h3:id < 1∨c.Id < id
   ·rw[if_pos h3,Tr.rt (by simpa using h3),Tr.rl]
   ·have hg:zin c=true:=by simp only[not_or] at h1;simpa using h1.1
    have hf:=z4a (v:=v) (zbt hg).2.2.1
    have hm:(if zcu c.Set v > 1 then zcu c.Set v else 1)=maxC c v:=by
     unfold maxC
     rcases hf with hf | hf
     ·rw[if_neg (by omega),if_pos hf]
     ·rw[if_neg (show ¬ zcu c.Set v=0 by omega)]
      split<;>omega
    rw[if_neg h3,Tr.rf (by simp;omega),Tr.rb (zact (by omega)),hm,Tr.rb (zacv (by simp) (by simp))]
    by_cases h4:(zr2 ⟨4,id,v,maxC c v,[],[]⟩ now c).1=0
    ·rw[Tr.rf (by simpa using h4),Tr.rl,h4]
    ·rw[Tr.rt (by simpa using h4),Tr.rl]
def zvt (c:zc):zc:=if c.On=false then c else { c with On:=false,Gone:=true,Out:={ c.Out with Closed:=true } }
theorem z8o {c:zc}:zfx c=some (zvt c):=by
 rw[zfx,zj2]
 unfold zvt
 cases ho:c.On with
 | false=>rw[Tr.rt (by rfl),Tr.rl,if_pos rfl]
 | true=>rw[Tr.rf (by rfl),Tr.rl,if_neg (by simp)]
theorem zaax {l:zim} {s:ByteArray} {u:Int} (h:(z53 l s u).2=0):zd1 l∧0≤u∧l.Closed=false∧l.Said.length < 400∧z53 l s u=({ l with Said:=l.Said++[s],Due:=l.Due++[u] },0):=by
 unfold z53 at h ⊢
 by_cases h1:¬ zd1 l∨u < 0
 ·rw[if_pos h1] at h;cases h
 ·rw[if_neg h1] at h ⊢
  simp only[not_or,Classical.not_not] at h1
  by_cases h2:l.Closed=true
  ·rw[if_pos h2] at h;cases h
  ·rw[if_neg h2] at h ⊢
   by_cases h3:400≤l.Said.length
   ·rw[if_pos h3] at h;cases h
   ·rw[if_neg h3]
    exact ⟨h1.1,by omega,by simpa using h2,by omega,rfl⟩
theorem zak5 {l:zim} {s:ByteArray} {u:Int} (h1:zd1 l) (h2:0≤u) (h3:l.Closed=false) (h4:l.Said.length < 400):z53 l s u=({ l with Said:=l.Said++[s],Due:=l.Due++[u] },0):=by
 unfold z53
 rw[if_neg (by simp only[not_or,Classical.not_not];exact ⟨h1,by omega⟩),if_neg (by rw[h3];simp),if_neg (by omega)]
theorem z4b {l:zim} {s:ByteArray} {u:Int} (h1:zd1 l) (h2:0≤u) (h4:l.Said.length < 400):zd1 { l with Said:=l.Said++[s],Due:=l.Due++[u] }:=by
 obtain ⟨g1,g2,g3,g4,g5⟩:=h1
 refine ⟨by simp[g1],by simp only[yy6,yy5];omega,g3,by simp only[yy6,yy5];omega,?_⟩
 simp only[List.any_append,g5,Bool.false_or,List.any_cons,List.any_nil,Bool.or_false,yy8]
 omega
theorem zahu {p:Packet} {now:Int} {c:zc} (h:(zr2 p now c).1=0):zcz p=0∧(z53 c.Out (txt (zn0 p)) (i64.wrap (now+40))).2=0 ∧
  zr2 p now c=(0,{ c with Out:={ c.Out with Said:=c.Out.Said++[txt (zn0 p)],Due:=c.Out.Due++[i64.wrap (now+40)] } }):=by
 have hg:zcz p=0:=by
  refine Classical.byContradiction fun hn=>?_
  unfold zr2 at h
  rw[zaak hn,if_pos hn] at h
  exact hn h
 unfold zr2 at h ⊢
 rw[zk6 hg,if_neg (by simp)] at h ⊢
 simp only at h ⊢
 by_cases hs:(z53 c.Out (txt (zn0 p)) (i64.wrap (now+40))).2=0
 ·rw[if_neg (by simpa using hs),(zaax hs).2.2.2.2]
  exact ⟨hg,rfl,rfl⟩
 ·rw[if_pos hs] at h
  exact absurd h hs
theorem zak6 {p:Packet} {now:Int} {c:zc} (hg:zcz p=0) (h1:zd1 c.Out) (h2:0≤i64.wrap (now+40)) (h3:c.Out.Closed=false) (h4:c.Out.Said.length < 400) :
  zr2 p now c=(0,{ c with Out:={ c.Out with Said:=c.Out.Said++[txt (zn0 p)],Due:=c.Out.Due++[i64.wrap (now+40)] } }):=by
 unfold zr2
 rw[zk6 hg,if_neg (by simp)]
 simp only
 rw[zak5 h1 h2 h3 h4,if_neg (by simp)]
theorem zoq {c:zc} (h1:zaaw c) (h2:zd1 c.Out) (h3:zx 1 (-1) c.Set=true) (h4:c.Ripes.all zjg=true) (h5:c.Pending.all zly=true):zin c=true:=by
 unfold zin
 rw[decide_eq_true h1,decide_eq_true h2,h3,h4,h5];rfl
theorem zak7 {now:Int} {c:zc} (h1:zin c=true) (h2:c.On=true) (h3:c.Time≤now) (h4:now≤1099511627776) :
  zxh now c=(zop now (c.Pending.foldl (zmk now) { c with Height:=i64.wrap (c.Height+1),Time:=now }).Ripes { c.Pending.foldl (zmk now) { c with Height:=i64.wrap (c.Height+1),Time:=now } with Pending:=[] },0):=by
 unfold zxh
 rw[if_neg (by rw[h1];simp),if_neg (by rw[h2];simp),if_neg (by omega)]
theorem zacw {c:zc} {v now:Int} (h:(z1v c v now).2=0):zin c=true∧0≤now∧now≤1099511627776∧c.On=true∧0≤v∧v≤5∧zcu c.Set v≠0∧(zr2 ⟨3,c.Id,v,zcu c.Set v,[],[]⟩ now c).1=0 ∧
  z1v c v now=({ (zr2 ⟨3,c.Id,v,zcu c.Set v,[],[]⟩ now c).2 with Flags:=(zr2 ⟨3,c.Id,v,zcu c.Set v,[],[]⟩ now c).2.Flags.set v true },0):=by
 unfold z1v at h ⊢
 by_cases h1:zin c=false∨now < 0∨1099511627776 < now
 ·rw[if_pos h1] at h;cases h
 ·rw[if_neg h1] at h ⊢
  by_cases h2:c.On=false∨v < 0∨5 < v∨zcu c.Set v=0
  ·rw[if_pos h2] at h;cases h
  ·rw[if_neg h2] at h ⊢
   by_cases h3:c.Flags.get v=true
   ·rw[if_pos h3] at h;cases h
   ·rw[if_neg h3] at h ⊢
    by_cases h4:(zr2 ⟨3,c.Id,v,zcu c.Set v,[],[]⟩ now c).1=0
    ·rw[if_neg (by simpa using h4)]
     simp only[not_or] at h1 h2
     exact ⟨by simpa using h1.1,by omega,by omega,by simpa using h2.1,by omega,by omega,h2.2.2.2,h4,rfl⟩
    ·rw[if_pos h4] at h
     exact absurd h h4
theorem z1w:zd1 ⟨[],[],0,false⟩:=⟨rfl,by decide,by decide,by decide,by decide⟩
theorem zahv {id:Int} (h1:1≤id) (h2:id≤1099511627776):zcz ⟨2,id,0,0,[],[]⟩=0:=by
 unfold zcz
 rw[if_neg (by simp),if_neg (by simp;omega),if_neg (by simp),if_neg (by simp[zx]),if_neg (by simp[zam])]
theorem zaay {m p q:Int} {l:List Power} (h:zx m q l=true) (hp:p≤q):zx m p l=true:=by
 cases l with
 | nil=>rfl
 | cons a l =>
  simp only[zx,yy7,decide_eq_true_eq] at h ⊢
  exact ⟨⟨⟨⟨by omega,h.1.1.1.2⟩,h.1.1.2⟩,h.1.2⟩,h.2⟩
theorem zmr {m p w n:Int} {s l:List Power} (hs:s=[]∨(s=[⟨w,n⟩]∧m≤n∧n≤1125899906842624)) (hp:p < w) (hw:w≤5) (hl:zx m w l=true):zx m p (s++l)=true:=by
 rcases hs with rfl | ⟨rfl,h1,h2⟩
 ·exact zaay hl (by omega)
 ·simp only[List.cons_append,List.nil_append,zx,yy7,decide_eq_true_eq]
  exact ⟨⟨⟨⟨hp,hw⟩,h1⟩,h2⟩,hl⟩
theorem zyf {w n:Int} (h:n≤1125899906842624):ztk w n=[]∨(ztk w n=[⟨w,n⟩]∧(1:Int)≤n∧n≤1125899906842624):=by
 unfold ztk
 by_cases hn:0 < n
 ·rw[if_pos hn];exact .inr ⟨rfl,by omega,h⟩
 ·rw[if_neg hn];exact .inl rfl
theorem zak8 {f:Nat→Int} (h:∀ v,f v≤1125899906842624):zx 1 (-1) (zey f)=true:=by
 rw[ztm]
 exact zmr (zyf (h 0)) (by omega) (by omega) (zmr (zyf (h 1)) (by omega) (by omega) (zmr (zyf (h 2)) (by omega) (by omega) (zmr (zyf (h 3)) (by omega) (by omega)
  (zmr (zyf (h 4)) (by omega) (by omega) (zmr (zyf (h 5)) (by omega) (by omega) rfl)))))
abbrev zhn (L:Links) (c:Int):zim:=⟨L.Said.get c,L.Due.get c,L.Got.get c,L.Closed.get c⟩
def z8p (p:za) (c:Int):Bool := !(p.Links.On.get c&&p.Links.Gone.get c)&&decide (0≤p.Links.Base.get c)&&decide (p.Links.Base.get c≤p.Height)&&zx 1 (-1) (p.Links.Told.get c)&&decide (zd1 (zhn p.Links c))&&zam (-1) (p.Links.Done.get c)
def zt5 (p:za) (a:Asked):Bool:=decide (0≤a.C)&&decide (a.C < 2)&&p.Links.On.get a.C&&(zcz a.P==0) && !(a.P.Kind==1)
def zy2 (p:za):Prop:=0≤p.Height∧p.Height < 1099511627776∧0≤p.Time∧p.Time≤1099511627776
instance (p:za):Decidable (zy2 p):=inferInstanceAs (Decidable (_∧_))
def z8 (p:za):Bool:=decide (GoodS p.Stake)&&decide (zy2 p)&&zx 1 (-1) p.Set&&z8p p 0&&z8p p 1&&p.Queue.all (zt5 p)
structure FitPr (R:Nat) (p:za):Prop where
 waits:p.Stake.Waits.length*64≤R
 set:p.Set.length*16≤R
 told:∀ c,(p.Links.Told.get c).length*16≤R
 done:∀ c,(p.Links.Done.get c).length*8≤R
 said:∀ c,(p.Links.Said.get c).length*16≤R
 due:∀ c,(p.Links.Due.get c).length*8≤R
 queue:p.Queue.length*88≤R
 ps:∀ a,a∈p.Queue→a.P.Set.length*16≤R∧a.P.Done.length*8≤R
theorem FitPr.mono {R S:Nat} {p:za} (h:FitPr R p) (hr:R≤S):FitPr S p :=
 ⟨Nat.le_trans h.waits hr,Nat.le_trans h.set hr,fun c=>Nat.le_trans (h.told c) hr,fun c=>Nat.le_trans (h.done c) hr,fun c=>Nat.le_trans (h.said c) hr,fun c=>Nat.le_trans (h.due c) hr,Nat.le_trans h.queue hr,
  fun a ha=>⟨Nat.le_trans (h.ps a ha).1 hr,Nat.le_trans (h.ps a ha).2 hr⟩⟩
theorem zahw {L:Links} {c:Int} {p:za} {k:Link} {l:List Int} (hp:k.Done=l) (hl:l.length≤9223372036854775807) :
  ∃ r,znf L c l l.length 0 p k=some r∧(match r with | .inl b=>b=false∧zam (-1) l=false | .inr x=>x=(L,c,p)∧zam (-1) l=true):=by
 have:=zqo (F:=fun s:Links×Int×(List Int)×Int×Int×za×Link=>(zfy s.1 s.2.1 s.2.2.1 s.2.2.2.1 s.2.2.2.2.1 s.2.2.2.2.2.1 s.2.2.2.2.2.2).run)
  (fun s=>s.1=L∧s.2.1=c∧s.2.2.1=l∧s.2.2.2.1=l.length∧0≤s.2.2.2.2.1∧s.2.2.2.2.1≤l.length∧s.2.2.2.2.2.1=p∧s.2.2.2.2.2.2=k∧(0 < s.2.2.2.2.1→0≤zmi l s.2.2.2.2.1)) (fun s=>l.length - s.2.2.2.2.1.toNat)
  (fun s r=>match r with | .inl b=>b=false∧zam (zmi l s.2.2.2.2.1) (l.drop s.2.2.2.2.1.toNat)=false | .inr x=>x=(L,c,p)∧zam (zmi l s.2.2.2.2.1) (l.drop s.2.2.2.2.1.toNat)=true) ?_ (L,c,l,(l.length:Int),0,p,k) ⟨rfl,rfl,rfl,rfl,by simp,by simp,rfl,rfl,by simp⟩
 ·exact this
 ·rintro ⟨y0,y1,x0,x1,x2,x3,x4⟩ ⟨g1,g2,h1,h2,h3,h4,h5,g3,h6⟩
  simp only at g1 g2 g3 h1 h2 h3 h4 h5 h6
  rw[g1,g2,g3,h1,h2,h5] at *
  simp only[zfy,hp]
  by_cases hc:x2 < l.length
  ·have hs:=zat (l:=l) (k:=x2.toNat) (by omega) 0
   rw[Tr.rt (by simpa using hc),Tr.rg ⟨h3,hc⟩,Tr.rg (by
    intro h _
    simp only[decide_eq_true_eq] at h
    rw[zl (x:=x2 - 1) (by omega) (by omega)]
    exact ⟨⟨by omega,by simp only[Sl.len];omega⟩,trivial⟩)]
   rw[hs]
   have hp:(decide (x2 > 0)&&decide (l.getD (i64.wrap (x2 - 1)).toNat 0≥l.getD x2.toNat 0))=(decide (x2 > 0)&&decide (zmi l x2≥l.getD x2.toNat 0)):=by
    by_cases h0:x2 > 0
    ·rw[zl (x:=x2 - 1) (by omega) (by omega)]
     unfold zmi
     rw[if_neg (by omega)]
    ·simp[h0]
   rw[hp]
   generalize hq:l.getD x2.toNat 0=q at *
   by_cases hd:zmi l x2 < q∧q≤5
   ·obtain ⟨d1,d2⟩:=hd
    have hw:i64.wrap (x2+1)=x2+1:=zl (by omega) (by omega)
    have hpv:zmi l (x2+1)=q:=by unfold zmi;rw[if_neg (by omega),show x2+1 - 1=x2 by omega,hq]
    have hq0:0≤q:=by
     by_cases h0:x2 > 0
     ·have:=h6 h0;omega
     ·have:zmi l x2 = -1:=by unfold zmi;rw[if_pos (by omega)]
      omega
    refine .inl ⟨_,by rw[Tr.rf (by simp;omega),Tr.rl,hw],⟨rfl,rfl,rfl,rfl,?_,?_,rfl,rfl,?_⟩,?_,?_⟩
    ·simp only[];omega
    ·simp only[];omega
    ·simp only[];rw[hpv];intro _;omega
    ·simp only[];omega
    ·simp only[]
     rw[hpv,show (x2+1).toNat=x2.toNat+1 by omega]
     intro r hr
     rw[zam,decide_eq_true d1,decide_eq_true d2]
     simpa using hr
   ·refine .inr ⟨_,by rw[Tr.rt (by
     by_cases h0:x2 > 0
     ·have:=h6 h0
      simp[h0];omega
     ·have:zmi l x2 = -1:=by unfold zmi;rw[if_pos (by omega)]
      simp[h0];omega),Tr.rl],?_⟩
    refine ⟨rfl,?_⟩
    rw[zam]
    simp only[Bool.and_eq_false_iff,yy8]
    omega
  ·refine .inr ⟨_,by rw[Tr.rf (by simpa using hc),Tr.rl],?_⟩
   refine ⟨rfl,?_⟩
   rw[List.drop_eq_nil_of_le (by omega)];rfl
theorem zak9 {l:List Power} (hl:l.length≤9223372036854775807) :
  ∃ r,zoj l l l.length 0=some r∧(match r with | .inl b=>b=false∧zx 1 (-1) l=false | .inr x=>zx 1 (-1) l=true):=by
 have:=zqo (F:=fun s:(List Power)×(List Power)×Int×Int=>(zgq s.1 s.2.1 s.2.2.1 s.2.2.2).run)
  (fun s=>s.1=l∧s.2.1=l∧s.2.2.1=l.length∧0≤s.2.2.2∧s.2.2.2≤l.length ∧ -1≤zf1 l s.2.2.2∧(0 < s.2.2.2→0≤zf1 l s.2.2.2)) (fun s=>l.length - s.2.2.2.toNat)
  (fun s r=>match r with | .inl b=>b=false∧zx 1 (zf1 l s.2.2.2) (l.drop s.2.2.2.toNat)=false | .inr x=>zx 1 (zf1 l s.2.2.2) (l.drop s.2.2.2.toNat)=true) ?_ (l,l,(l.length:Int),0) ⟨rfl,rfl,rfl,by simp,by simp,by simp[zf1],by simp⟩
 ·exact this
 ·rintro ⟨y0,x0,x1,x2⟩ ⟨g1,h1,h2,h3,h4,h6,h7⟩
  simp only at g1 h1 h2 h3 h4 h6 h7
  rw[g1,h1,h2] at *
  simp only[zgq]
  by_cases hc:x2 < l.length
  ·have hs:=zat (l:=l) (k:=x2.toNat) (by omega) default
   rw[Tr.rt (by simpa using hc),Tr.rg ⟨h3,hc⟩,Tr.rg (by
    intro h _
    simp only[decide_eq_true_eq] at h
    rw[zl (x:=x2 - 1) (by omega) (by omega)]
    exact ⟨⟨by omega,by simp only[Sl.len];omega⟩,trivial⟩)]
   rw[hs]
   have hp:(decide (x2 > 0)&&decide ((l.getD (i64.wrap (x2 - 1)).toNat default).V≥(l.getD x2.toNat default).V))=(decide (x2 > 0)&&decide (zf1 l x2≥(l.getD x2.toNat default).V)):=by
    by_cases h0:x2 > 0
    ·rw[zl (x:=x2 - 1) (by omega) (by omega)]
     unfold zf1
     rw[if_neg (by omega)]
    ·simp[h0]
   rw[hp]
   generalize hq:l.getD x2.toNat default=q at *
   by_cases hd:zf1 l x2 < q.V∧q.V≤5∧1≤q.N∧q.N≤1125899906842624
   ·obtain ⟨d1,d2,d3,d4⟩:=hd
    have hw:i64.wrap (x2+1)=x2+1:=zl (by omega) (by omega)
    have hpv:zf1 l (x2+1)=q.V:=by unfold zf1;rw[if_neg (by omega),show x2+1 - 1=x2 by omega,hq]
    refine .inl ⟨_,by rw[Tr.rf (by simp;omega),Tr.rl,hw],⟨rfl,rfl,rfl,?_,?_,?_,?_⟩,?_,?_⟩
    ·simp only[];omega
    ·simp only[];omega
    ·simp only[];rw[hpv];omega
    ·simp only[];rw[hpv];intro _;omega
    ·simp only[];omega
    ·simp only[]
     rw[hpv,show (x2+1).toNat=x2.toNat+1 by omega]
     intro r hr
     rw[zx,decide_eq_true d1,decide_eq_true d2,decide_eq_true d3,decide_eq_true d4]
     simpa using hr
   ·refine .inr ⟨_,by rw[Tr.rt (by
     by_cases h0:x2 > 0
     ·have:=h7 h0
      simp[h0];omega
     ·have:zf1 l x2 = -1:=by unfold zf1;rw[if_pos (by omega)]
      simp[h0];omega),Tr.rl],?_⟩
    refine ⟨rfl,?_⟩
    rw[zx]
    simp only[Bool.and_eq_false_iff,yy8]
    omega
  ·refine .inr ⟨_,by rw[Tr.rf (by simpa using hc),Tr.rl],?_⟩
   rw[List.drop_eq_nil_of_le (by omega)];rfl
theorem zts {l:List Power} (hl:l.length≤9223372036854775807):zc8 l=some (zx 1 (-1) l):=by
 obtain ⟨r,h1,h2⟩:=zak9 hl
 rw[zc8,zpe]
 cases r with
 | inl b=>rw[Tr.ri h1,Tr.rl,h2.1,h2.2]
 | inr x=>rw[Tr.rj h1,Tr.rl,h2]
theorem zaua {p:za} {a:Asked} (h:a.P.Set.length*16≤140737488351232∧a.P.Done.length*8≤140737488351232):zi8 a p=some (!zt5 p a,p):=by
 rw[zi8,zj3,Tr.rg (by
  intro h0
  simp only[Bool.or_eq_false_iff,yy8] at h0
  exact ⟨⟨by omega,by omega⟩,trivial⟩),Tr.rg (fun _=>⟨by rw[zxc h.1 h.2];rfl,trivial⟩),Tr.rl,zxc h.1 h.2]
 congr 2
 unfold zt5
 simp only[yy2]
 have e1:decide (a.C < 0) = !decide (0≤a.C):=by rw[← decide_not];congr 1;exact propext ⟨fun h=>by omega,fun h=>by omega⟩
 have e2:decide (a.C≥2) = !decide (a.C < 2):=by rw[← decide_not];congr 1;exact propext ⟨fun h=>by omega,fun h=>by omega⟩
 rw[e1,e2]
 simp only[Bool.not_and,Bool.not_not]
 rfl
theorem zaps {l:List Asked} {p:za} (hl:l.length≤9223372036854775807) (hp:∀ a,a∈l→a.P.Set.length*16≤140737488351232∧a.P.Done.length*8≤140737488351232) :
  zb3 l p=some (!l.all (zt5 p),p):=by
 obtain ⟨r,h1,h2⟩:=zgg (F:=fun s:(List Asked)×Int×Int×za=>(zaa s.1 s.2.1 s.2.2.1 s.2.2.2).run) l.length
  (fun i (_:Unit)=>(l,(l.length:Int),(i:Int),p)) (fun i _=>True) (fun i _ r=>match r with | .inl k=>(0≤k.1∧k.2=p)∧(l.drop i).all (zt5 p)=false | .inr q=>q=p∧(l.drop i).all (zt5 p)=true) (by
   intro t _
   refine ⟨.inr p,?_,rfl,?_⟩
   ·simp only[zaa];rw[Tr.rf (by simp),Tr.rl]
   ·rw[List.drop_length];rfl) (by
   intro i t hi _
   have hs:=zat (l:=l) (k:=i) hi default
   have hm:=zf0 (l:=l) (k:=i) hi default
   simp only[zaa,yy4]
   rw[Tr.rt (by simpa using hi),Tr.rg ⟨by omega,by show (i:Int) < (l.length:Nat);omega⟩,Tr.rb (zaua (hp _ hm)),hs]
   simp only[List.all_cons]
   obtain ⟨b,hb⟩:∃ b,b=zt5 p (l.getD i default):=⟨_,rfl⟩
   rw[← hb]
   cases b with
   | true =>
    refine .inl ⟨(),?_,trivial,?_⟩
    ·rw[Tr.rf (show (!true)=false from rfl),Tr.rl,zw (by omega)]
    ·intro r hr
     cases r with
     | inl x=>exact ⟨hr.1,by rw[hr.2];rfl⟩
     | inr x=>rw[Bool.true_and];exact hr
   | false =>
    refine .inr ⟨.inl (i,p),?_,⟨by simp only[];omega,rfl⟩,by rfl⟩
    rw[Tr.rt (show (!false)=true from rfl),Tr.rl]) 0 () (by omega) trivial
 have h1:zdf l l.length 0 p=some r:=h1
 rw[zb3,zb6]
 cases r with
 | inl k =>
  simp only[List.drop_zero] at h2
  rw[Tr.rb (v:=k) (by rw[zb5,za6,Tr.ri h1,Tr.rl]),Tr.rl,h2.2,h2.1.2]
  simp[h2.1.1]
 | inr k =>
  simp only[List.drop_zero] at h2
  rw[Tr.rb (v:=(-1,k)) (by rw[zb5,za6,Tr.rj h1,Tr.rl]),Tr.rl,h2.2,h2.1]
  rfl
theorem zaz6 (x y b c d e:Bool):(((((x&&y) || !b) || !c) || !d) || !e) = !(!(x&&y)&&b&&c&&d&&e):=by
 cases x<;>cases y<;>cases b<;>cases c<;>cases d<;>cases e<;>rfl
theorem z8q {p:za} (hf:FitPr 140737488351232 p) {c:Nat} (hc:c < 2) :
  (zcp p.Links c p).run=some (if z8p p c=true then .inl (p.Links,((c+1:Nat):Int),p) else .inr (.inl false)):=by
 simp only[zcp]
 have ht:=hf.told c
 have hd:=hf.done c
 rw[Tr.rt (by simp;omega),Tr.rg ⟨by omega,by omega⟩,Tr.rg (fun _=>⟨by rw[zts (by omega)];rfl,trivial⟩),Tr.rg (fun _=>⟨by rw[zx7];rfl,trivial⟩),zts (by omega),zx7]
 simp only[yy2]
 have e:((((((p.Links.On.get (c:Int))&&(p.Links.Gone.get (c:Int)))||(decide ((p.Links.Base.get (c:Int)) < 0)))||(decide ((p.Links.Base.get (c:Int)) > p.Height)))||(!zx 1 (-1) (p.Links.Told.get (c:Int))))||(!decide (zd1 (zhn p.Links c)))) =
   !(!(p.Links.On.get (c:Int)&&p.Links.Gone.get (c:Int))&&decide (0≤p.Links.Base.get (c:Int))&&decide (p.Links.Base.get (c:Int)≤p.Height)&&zx 1 (-1) (p.Links.Told.get (c:Int))&&decide (zd1 (zhn p.Links c))):=by
  have e1:decide (p.Links.Base.get (c:Int) < 0) = !decide (0≤p.Links.Base.get (c:Int)):=by rw[← decide_not];congr 1;exact propext ⟨fun h=>by omega,fun h=>by omega⟩
  have e2:decide (p.Links.Base.get (c:Int) > p.Height) = !decide (p.Links.Base.get (c:Int)≤p.Height):=by rw[← decide_not];congr 1;exact propext ⟨fun h=>by omega,fun h=>by omega⟩
  rw[e1,e2]
  exact zaz6 _ _ _ _ _ _
 rw[show zhn p.Links (c:Int)=(⟨p.Links.Said.get (c:Int),p.Links.Due.get (c:Int),p.Links.Got.get (c:Int),p.Links.Closed.get (c:Int)⟩:zim) from rfl] at e
 rw[e]
 unfold z8p
 rw[show zhn p.Links (c:Int)=(⟨p.Links.Said.get (c:Int),p.Links.Due.get (c:Int),p.Links.Got.get (c:Int),p.Links.Closed.get (c:Int)⟩:zim) from rfl]
 generalize (!(p.Links.On.get (c:Int)&&p.Links.Gone.get (c:Int))&&decide (0≤p.Links.Base.get (c:Int))&&decide (p.Links.Base.get (c:Int)≤p.Height)&&zx 1 (-1) (p.Links.Told.get (c:Int))&&decide (zd1 (⟨p.Links.Said.get (c:Int),p.Links.Due.get (c:Int),p.Links.Got.get (c:Int),p.Links.Closed.get (c:Int)⟩:zim)))=b
 cases b with
 | false=>rw[Tr.rt (show (!false)=true from rfl),Tr.rl];rfl
 | true =>
  rw[Tr.rf (show (!true)=false from rfl)]
  obtain ⟨r,h1,h2⟩:=zahw (L:=p.Links) (c:=(c:Int)) (p:=p) (k:=⟨p.Links.On.get c,p.Links.Gone.get c,p.Links.Base.get c,p.Links.Told.get c,p.Links.Fresh.get c,p.Links.Done.get c,⟨p.Links.Said.get c,p.Links.Due.get c,p.Links.Got.get c,p.Links.Closed.get c⟩,⟨p.Links.SHeight.get c,p.Links.STime.get c,p.Links.SSaid.get c,p.Links.SGot.get c⟩⟩)
   (l:=p.Links.Done.get c) rfl (by omega)
  cases r with
  | inl b=>rw[Tr.ri h1,Tr.rl,h2.1,h2.2];rfl
  | inr x=>rw[Tr.rj h1,Tr.rl,h2.1,h2.2,zw (by omega)];rfl
theorem zic {p:za} (hf:FitPr 140737488351232 p):zbf p=some (z8 p):=by
 have hs:=hf.set
 have hq:=hf.queue
 have loop:zh0 p.Links 0 p=some (if z8p p 0=true then (if z8p p 1=true then .inr p else .inl false) else .inl false):=by
  rw[zh0]
  have t0:=z8q hf (c:=0) (by omega)
  have t1:=z8q hf (c:=1) (by omega)
  simp only[Int.ofNat_zero,Nat.zero_add,Int.ofNat_one] at t0 t1
  by_cases h0:z8p p 0=true
  ·rw[if_pos h0] at t0 ⊢
   rw[zbs (s':=(p.Links,((1:Nat):Int),p)) t0]
   by_cases h1:z8p p 1=true
   ·rw[if_pos h1] at t1 ⊢
    rw[zbs (s':=(p.Links,((2:Nat):Int),p)) t1,zda (r:=.inr p) (by
     show (zcp p.Links 2 p).run=_
     simp only[zcp]
     rw[Tr.rf (by simp),Tr.rl])]
   ·rw[if_neg h1] at t1 ⊢
    rw[zda (r:=.inl false) t1]
  ·rw[if_neg h0] at t0 ⊢
   rw[zda (r:=.inl false) t0]
 rw[zbf,zng,Tr.rb (ztb p.Stake),Tr.rg (fun _=>⟨by rw[zts (by omega)];rfl,trivial⟩),zts (by omega)]
 simp only[yy2]
 have e:((((((!decide (GoodS p.Stake))||(decide (p.Height < 0)))||(decide (p.Height≥1099511627776)))||(decide (p.Time < 0)))||(decide (p.Time > 1099511627776)))||(!zx 1 (-1) p.Set)) = !(decide (GoodS p.Stake)&&decide (zy2 p)&&zx 1 (-1) p.Set):=by
  rw[Bool.eq_iff_iff]
  simp only[Bool.or_eq_true,Bool.not_eq_true',yy8,decide_eq_true_eq,Bool.and_eq_false_iff]
  unfold zy2
  constructor
  ·rintro (((((h | h) | h) | h) | h) | h)
   ·exact .inl (.inl h)
   ·exact .inl (.inr (by omega))
   ·exact .inl (.inr (by omega))
   ·exact .inl (.inr (by omega))
   ·exact .inl (.inr (by omega))
   ·exact .inr h
  ·rintro ((h | h) | h)
   ·exact .inl (.inl (.inl (.inl (.inl h))))
   ·rcases (show p.Height < 0∨p.Height≥1099511627776∨p.Time < 0∨p.Time > 1099511627776 by omega) with k | k | k | k
    ·exact .inl (.inl (.inl (.inl (.inr k))))
    ·exact .inl (.inl (.inl (.inr k)))
    ·exact .inl (.inl (.inr k))
    ·exact .inl (.inr k)
   ·exact .inr h
 rw[e]
 unfold z8
 generalize (decide (GoodS p.Stake)&&decide (zy2 p)&&zx 1 (-1) p.Set)=b
 cases b with
 | false=>rw[Tr.rt (show (!false)=true from rfl),Tr.rl];rfl
 | true =>
  rw[Tr.rf (show (!true)=false from rfl)]
  by_cases h0:z8p p 0=true
  ·rw[if_pos h0] at loop
   by_cases h1:z8p p 1=true
   ·rw[if_pos h1] at loop
    rw[Tr.rj loop,Tr.rb (zaps (by omega) hf.ps),Tr.rl,h0,h1]
    simp
   ·rw[if_neg h1] at loop
    rw[Tr.ri loop,Tr.rl,h0,Bool.eq_false_iff.2 h1]
    rfl
  ·rw[if_neg h0] at loop
   rw[Tr.ri loop,Tr.rl,Bool.eq_false_iff.2 h0]
   rfl
structure zaz7 (p:za):Prop where
 waits:p.Stake.Waits.length≤9223372036854775807
 set:p.Set.length≤9223372036854775807
 told:∀ c,(p.Links.Told.get c).length≤9223372036854775807
 done:∀ c,(p.Links.Done.get c).length≤9223372036854775807
 said:∀ c,(p.Links.Said.get c).length≤9223372036854775807
 due:∀ c,(p.Links.Due.get c).length≤9223372036854775807
 queue:p.Queue.length≤9223372036854775807
 ps:∀ a,a∈p.Queue→a.P.Set.length≤9223372036854775807∧a.P.Done.length≤9223372036854775807
theorem FitPr.len {R:Nat} {p:za} (h:FitPr R p) (hR:R≤9223372036854775807):zaz7 p :=
 ⟨by have:=h.waits;omega,by have:=h.set;omega,fun c=>by have:=h.told c;omega,fun c=>by have:=h.done c;omega,fun c=>by have:=h.said c;omega,fun c=>by have:=h.due c;omega,by have:=h.queue;omega,
  fun a ha=>by have:=h.ps a ha;omega⟩
theorem zxi {α:Type} {t e:Tr α}:(Tr.ite (!true) t e).run=e.run:=Tr.rf (show (!true)=false from rfl)
theorem zxj {α:Type} {t e:Tr α}:(Tr.ite (!false) t e).run=t.run:=Tr.rt (show (!false)=true from rfl)
def newM (x t:Int):Meter:=⟨if x < 5 then 1 else x / 5,i64.wrap (t+10)⟩
def zael (m:Meter) (x t:Int):Meter:=if m.Next≤t then newM x t else m
def zaaz (m:Meter) (n:Int):Meter×Bool:=if m.Left≤0 then (m,false) else (⟨i64.wrap (m.Left - n),m.Next⟩,true)
theorem zahx {x t:Int} (hx:i6 x):zod x t=some (newM x t):=by
 have h:zit x=some (if x < 5 then 1 else x / 5):=by
  rw[zit,zju,Tr.rg (by decide),Tr.rl]
  unfold i6 at hx
  by_cases h5:x < 5
  ·have:Int.tdiv x 5 < 1:=by
    by_cases h0:0≤x
    ·rw[Int.tdiv_eq_ediv_of_nonneg h0];omega
    ·have:Int.tdiv x 5≤0:=by
      have h1:Int.tdiv (-x) 5 = - Int.tdiv x 5:=Int.neg_tdiv x 5
      rw[Int.tdiv_eq_ediv_of_nonneg (by omega)] at h1
      omega
     omega
   have hl : -9223372036854775808≤Int.tdiv x 5:=by
    by_cases h0:0≤x
    ·rw[Int.tdiv_eq_ediv_of_nonneg h0];omega
    ·have h1:Int.tdiv (-x) 5 = - Int.tdiv x 5:=Int.neg_tdiv x 5
     rw[Int.tdiv_eq_ediv_of_nonneg (by omega)] at h1
     omega
   rw[zl (by omega) (by omega),if_neg (by omega),if_pos h5]
  ·rw[Int.tdiv_eq_ediv_of_nonneg (by omega),zl (by omega) (by omega),if_neg h5]
   split
   ·rfl
   ·congr 1;omega
 rw[zod,zvd,Tr.rb h,Tr.rl];rfl
theorem zacx {m:Meter} {x t:Int} (hx:i6 x):zme m x t=some (zael m x t):=by
 rw[zme,zsh]
 unfold zael
 by_cases h:m.Next≤t
 ·rw[Tr.rt (by simpa using h),Tr.rb (zahx hx),Tr.rl,if_pos h]
 ·rw[Tr.rf (by simpa using h),Tr.rl,if_neg h]
theorem zacy {m:Meter} {n:Int}:zgl m n=some (zaaz m n):=by
 rw[zgl,zsi]
 unfold zaaz
 by_cases h:m.Left≤0
 ·rw[Tr.rt (by simpa using h),Tr.rl,if_pos h]
 ·rw[Tr.rf (by simpa using h),Tr.rl,if_neg h]
def z8r:za:=⟨0,0,newS,[],default,newM 0 0,[]⟩
theorem zaem:zne=some z8r:=by
 rw[zne,zpd,Tr.rb zaas,Tr.rb (zahx (by unfold i6;omega)),Tr.rl];rfl
def zcr (p:za) (d v n:Int):za×Int :=
 if z8 p=true then (if (zaz p.Stake d v n).2≠0 then (p,(zaz p.Stake d v n).2) else ({ p with Stake:=(zaz p.Stake d v n).1 },0)) else (p,2)
theorem z1x {p:za} (hf:FitPr 140737488351232 p) {d v n:Int} (hn:n≤9223372036854775807):zg0 p d v n=some (zcr p d v n):=by
 rw[zg0,zh1,Tr.rb (zic hf)]
 unfold zcr
 by_cases hg:z8 p=true
 ·rw[hg,zxi,if_pos rfl,Tr.rb (zaan hn)]
  by_cases h0:(zaz p.Stake d v n).2≠0
  ·rw[Tr.rt (by simpa using h0),Tr.rl,if_pos h0]
  ·rw[Tr.rf (by simpa using h0),Tr.rl,if_neg h0]
 ·rw[Bool.eq_false_iff.2 hg,zxj,Tr.rl];rfl
def z1y (p:za) (now:Int):Wait:=⟨0,0,0,0,p.Height+1,now+20,if p.Links.On.x0=true then p.Height+1 else 0,if p.Links.On.x1=true then p.Height+1 else 0⟩
def z8s (L:Links):Links:={ L with Fresh:=⟨L.Fresh.x0||L.On.x0,L.Fresh.x1||L.On.x1⟩ }
def zcl (p:za) (d v k now:Int):za×Int :=
 if z8 p=true∧0≤now∧now≤1099511627776 then
  (if (zaq p.Stake d v k (z1y p now)).2≠0 then (p,(zaq p.Stake d v k (z1y p now)).2) else ({ p with Stake:=(zaq p.Stake d v k (z1y p now)).1,Links:=z8s p.Links },0))
 else (p,2)
theorem zid {p:za} (h:z8 p=true):GoodS p.Stake∧zy2 p∧zx 1 (-1) p.Set=true∧z8p p 0=true∧z8p p 1=true∧p.Queue.all (zt5 p)=true:=by
 unfold z8 at h
 simp only[yy7,decide_eq_true_eq] at h
 exact ⟨h.1.1.1.1.1,h.1.1.1.1.2,h.1.1.1.2,h.1.1.2,h.1.2,h.2⟩
theorem z4c {p:za} {now:Int}:(((!z8 p)||(decide (now < 0)))||(decide (now > 1099511627776))) = !decide (z8 p=true∧0≤now∧now≤1099511627776):=by
 rw[Bool.eq_iff_iff]
 simp only[Bool.or_eq_true,Bool.not_eq_true',decide_eq_true_eq,yy8]
 cases z8 p<;>simp<;>omega
theorem zyg {p:za} (hf:FitPr 140737488351232 p) {d v k now:Int} (hk:k≤9223372036854775807):za9 p d v k now=some (zcl p d v k now):=by
 rw[za9,zga,Tr.rb (zic hf)]
 unfold zcl
 by_cases hg:z8 p=true∧0≤now∧now≤1099511627776
 ·rw[if_pos hg]
  obtain ⟨g1,g2,-⟩:=zid hg.1
  unfold zy2 at g2
  have turn:∀ (c:Nat),c < 2→∀ (q:za) (w:Wait),(zaw d v k c p q w).run=some (.inl (d,v,k,((c+1:Nat):Int),p,q,if p.Links.On.get c=true then { w with h0:=if (c:Int)=0 then p.Height+1 else w.h0,h1:=if (c:Int)=1 then p.Height+1 else w.h1 } else w)):=by
   intro c hc q w
   simp only[zaw]
   rw[Tr.rt (by simp;omega),Tr.rg ⟨by omega,by omega⟩]
   by_cases ho:p.Links.On.get c=true
   ·rw[Tr.rt ho,Tr.rg ⟨by omega,by omega⟩,Tr.rl,zw (by omega),if_pos ho,zl (by omega) (by omega)]
   ·rw[Tr.rf (Bool.eq_false_iff.2 ho),Tr.rl,zw (by omega),if_neg ho]
  have hw:zd8 d v k 0 p default ⟨0,0,0,0,p.Height+1,now+20,0,0⟩=some (d,v,k,p,default,z1y p now):=by
   rw[zd8,zbs (s':=(d,v,k,((1:Nat):Int),p,_,_)) (turn 0 (by omega) _ _),zbs (s':=(d,v,k,((2:Nat):Int),p,_,_)) (turn 1 (by omega) _ _),zda (by
    show (zaw d v k 2 p _ _).run=_
    simp only[zaw]
    rw[Tr.rf (by simp),Tr.rl])]
   have e0:p.Links.On.get ((0:Nat):Int)=p.Links.On.x0:=rfl
   have e1:p.Links.On.get ((1:Nat):Int)=p.Links.On.x1:=rfl
   rw[e0,e1]
   unfold z1y
   cases p.Links.On.x0<;>cases p.Links.On.x1<;>rfl
  rw[Tr.rf (by rw[z4c,decide_eq_true hg];rfl),zl (x:=p.Height+1) (by omega) (by omega),zl (x:=now+20) (by omega) (by omega),Tr.rb hw]
  simp only[]
  rw[Tr.rb (z6d hk)]
  by_cases h0:(zaq p.Stake d v k (z1y p now)).2≠0
  ·rw[Tr.rt (by simpa using h0),Tr.rl,if_pos h0]
  ·rw[Tr.rf (by simpa using h0),if_neg h0]
   have turn2:∀ (c:Nat),c < 2→∀ (p q:za),(zax c p q).run=some (.inl (((c+1:Nat):Int),{ p with Links:={ p.Links with Fresh:=p.Links.Fresh.set c (p.Links.Fresh.get c||p.Links.On.get c) } },q)):=by
    intro c hc p q
    simp only[zax]
    rw[Tr.rt (by simp;omega),Tr.rg ⟨by omega,by omega⟩,Tr.rg (fun _=>⟨⟨by omega,by omega⟩,trivial⟩),Tr.rg ⟨by omega,by omega⟩,Tr.rl,zw (by omega)]
   rw[Tr.rb (v:=({ p with Stake:=(zaq p.Stake d v k (z1y p now)).1,Links:=z8s p.Links },default)) (by
    rw[zhj,zbs (s':=(((1:Nat):Int),_,_)) (turn2 0 (by omega) _ _),zbs (s':=(((2:Nat):Int),_,_)) (turn2 1 (by omega) _ _),zda (by
     show (zax 2 _ _).run=_
     simp only[zax]
     rw[Tr.rf (by simp),Tr.rl])]
    rfl),Tr.rl]
 ·rw[if_neg hg,Tr.rt (by rw[z4c,decide_eq_false hg];rfl),Tr.rl]
theorem zxk:∀ {l:List Int} {p:Int},zam p l=true→(∀ q,q∈l→p < q∧q≤5)∧l.Pairwise (· < ·)
 | [],p,h=>⟨by simp,.nil⟩
 | q::l,p,h=>by
  simp only[zam,yy7,decide_eq_true_eq] at h
  obtain ⟨h1,h2⟩:=zxk h.2
  refine ⟨fun x hx=>?_,List.pairwise_cons.2 ⟨fun x hx=>(h1 x hx).1,h2⟩⟩
  rcases List.mem_cons.1 hx with rfl | hx
  ·exact h.1
  ·have:=h1 x hx;omega
theorem z8t:∀ {l:List Int} {p:Int},(∀ q,q∈l→p < q∧q≤5)→l.Pairwise (· < ·)→zam p l=true
 | [],p,_,_=>rfl
 | q::l,p,h1,h2=>by
  have hq:=h1 q (List.mem_cons_self ..)
  rw[List.pairwise_cons] at h2
  simp only[zam,yy7,decide_eq_true_eq]
  exact ⟨hq,z8t (fun x hx=>⟨h2.1 x hx,(h1 x (List.mem_cons_of_mem _ hx)).2⟩) h2.2⟩
theorem zaa0:∀ {l m:List Int},l.Pairwise (· < ·)→m.Pairwise (· < ·)→(∀ p,p∈l↔p∈m)→l=m
 | [],[],_,_,_=>rfl
 | [],b::m,_,_,h=>by have:=(h b).2 (List.mem_cons_self ..);cases this
 | a::l,[],_,_,h=>by have:=(h a).1 (List.mem_cons_self ..);cases this
 | a::l,b::m,hl,hm,h=>by
  rw[List.pairwise_cons] at hl hm
  have hab:a=b:=by
   rcases List.mem_cons.1 ((h a).1 (List.mem_cons_self ..)) with h1 | h1
   ·exact h1
   ·rcases List.mem_cons.1 ((h b).2 (List.mem_cons_self ..)) with h2 | h2
    ·exact h2.symm
    ·have k1:=hm.1 a h1
     have k2:=hl.1 b h2
     omega
  subst hab
  congr 1
  refine zaa0 hl.2 hm.2 fun p=>⟨fun hp=>?_,fun hp=>?_⟩
  ·rcases List.mem_cons.1 ((h p).1 (List.mem_cons_of_mem _ hp)) with h1 | h1
   ·have:=hl.1 p hp;omega
   ·exact h1
  ·rcases List.mem_cons.1 ((h p).2 (List.mem_cons_of_mem _ hp)) with h1 | h1
   ·have:=hm.1 p hp;omega
   ·exact h1
theorem zapt (a b:Int):znm a b=some (decide (a < b)):=by
 have h:∀ x,zfk x=some false:=fun x=>by rw[zfk,znl,Tr.rl];simp
 rw[znm,zpf,Tr.rb (h a),Tr.rg (fun e=>by cases e),Tr.rl]
 simp
theorem zacz (x:Int):zbh x=some false:=by rw[zbh,zi9,Tr.rl];simp
theorem zaa1 {l:List Int} (h:l.Pairwise (· < ·)) {x y:Nat} (hxy:x < y) (hy:y < l.length):l.getD x 0 < l.getD y 0:=by
 have:=List.pairwise_iff_getElem.1 h x y (by omega) hy hxy
 rw[yy0,yy0,yy3 hy,yy3 (show x < l.length by omega)]
 exact this
def z8u (l:List Int) (v k:Int):Prop:=0≤k∧k≤l.length∧(∀ x:Nat,(x:Int) < k→l.getD x 0 < v)∧(∀ x:Nat,k≤x→x < l.length→v≤l.getD x 0)
theorem zahy {l:List Int} (hs:l.Pairwise (· < ·)) (hl:l.length≤1000) (v:Int) :
  ∃ k,zfl l v l.length 0 l.length=some (l,v,(l.length:Int),k)∧z8u l v k:=by
 have:=zqo (F:=fun s:(List Int)×Int×Int×Int×Int=>(zbj s.1 s.2.1 s.2.2.1 s.2.2.2.1 s.2.2.2.2).run)
  (fun s=>s.1=l∧s.2.1=v∧s.2.2.1=l.length∧(0≤s.2.2.2.1∧s.2.2.2.1≤s.2.2.2.2∧s.2.2.2.2≤l.length)∧(∀ x:Nat,(x:Int) < s.2.2.2.1→l.getD x 0 < v)∧(∀ x:Nat,s.2.2.2.2≤x→x < l.length→v≤l.getD x 0))
  (fun s=>(s.2.2.2.2 - s.2.2.2.1).toNat) (fun s r=>∃ k,r=(l,v,(l.length:Int),k)∧z8u l v k) ?_ (l,v,(l.length:Int),0,(l.length:Int)) ⟨rfl,rfl,rfl,⟨by simp,by simp,by simp⟩,by intro x hx;simp only[] at hx;omega,by intro x hx h2;simp only[] at hx;omega⟩
 ·obtain ⟨r,h1,k,rfl,h3⟩:=this
  exact ⟨k,h1,h3⟩
 ·rintro ⟨x0,x1,x2,i,j⟩ ⟨h1,h2,h3,⟨h4,h5,h6⟩,h7,h8⟩
  simp only at h1 h2 h3 h4 h5 h6 h7 h8
  rw[h1,h2,h3] at *
  simp only[zbj]
  by_cases hc:i < j
  ·have hm:i64.wrap (Int.fdiv (u64.wrap (i64.wrap (i+j))) (2 ^ 1))=(i+j) / 2:=by
    rw[zl (x:=i+j) (by omega) (by omega),zagw (by omega) (by omega),Int.fdiv_eq_ediv_of_nonneg _ (by decide),zl (by omega) (by omega)]
    rfl
   rw[hm]
   generalize hmm:(i+j) / 2=m
   have m1:i≤m:=by omega
   have m2:m < j:=by omega
   rw[Tr.rt (by simpa using hc),Tr.rg (by decide),Tr.rg ⟨by omega,by show m < (l.length:Nat);omega⟩,Tr.rb (zapt _ _)]
   by_cases hlt:l.getD m.toNat 0 < v
   ·refine .inl ⟨(l,v,(l.length:Int),m+1,j),by rw[Tr.rt (by simpa using hlt),Tr.rl,zl (by omega) (by omega)],⟨rfl,rfl,rfl,⟨by simp only[];omega,by simp only[];omega,by simp only[];omega⟩,?_,h8⟩,by simp only[];omega,fun r hr=>hr⟩
    intro x hx
    simp only[] at hx
    by_cases hxm:x=m.toNat
    ·rw[hxm];exact hlt
    ·have:=zaa1 hs (x:=x) (y:=m.toNat) (by omega) (by omega)
     omega
   ·refine .inl ⟨(l,v,(l.length:Int),i,m),by rw[Tr.rf (by simpa using hlt),Tr.rl],⟨rfl,rfl,rfl,⟨by simp only[];omega,by simp only[];omega,by simp only[];omega⟩,h7,?_⟩,by simp only[];omega,fun r hr=>hr⟩
    intro x hx hx2
    simp only[] at hx
    by_cases hxm:x=m.toNat
    ·rw[hxm];omega
    ·have:=zaa1 hs (x:=m.toNat) (y:=x) (by omega) hx2
     omega
  ·refine .inr ⟨(l,v,(l.length:Int),i),by rw[Tr.rf (by simpa using hc),Tr.rl],i,rfl,h4,by omega,h7,fun x hx=>h8 x (by omega)⟩
theorem zahz {l:List Int} (hs:l.Pairwise (· < ·)) (hl:l.length≤1000) (v:Int):∃ k,zp l v=some (k,decide (v∈l))∧z8u l v k:=by
 obtain ⟨k,h1,h2⟩:=zahy hs hl v
 refine ⟨k,?_,h2⟩
 obtain ⟨k0,k1,k2,k3⟩:=h2
 have hin:decide (k < (l.length:Int))=true→(0:Int)≤k∧k < ((Sl.len (.ints l):Nat):Int):=fun h=>⟨k0,by simpa[Sl.len] using h⟩
 rw[zp,zd9,Tr.rb h1]
 simp only[]
 rw[Tr.rg (fun h=>⟨hin h,trivial⟩),Tr.rg (fun _ h=>⟨hin h,trivial⟩),Tr.rg (fun _ _=>⟨by rw[zacz];rfl,trivial⟩),Tr.rg (fun _ _ _=>⟨by rw[zacz];rfl,trivial⟩),Tr.rl,zacz,zacz]
 simp only[yy2,Bool.and_false,Bool.or_false]
 congr 2
 rw[Bool.eq_iff_iff]
 simp only[yy7,decide_eq_true_eq,beq_iff_eq]
 constructor
 ·rintro ⟨hk,he⟩
  rw[← he]
  exact zf0 (by omega) 0
 ·intro hv
  obtain ⟨x,hx,he⟩:=List.getElem_of_mem hv
  have hg:l.getD x 0=v:=by rw[yy0,yy3 hx];exact he
  have hkx:k≤x:=by
   rcases Int.lt_or_le (x:Int) k with h | h
   ·have:=k2 x h;omega
   ·exact h
  refine ⟨by omega,?_⟩
  have h3:=k3 k.toNat (by omega) (by omega)
  by_cases hxk:x=k.toNat
  ·rw[← hxk];exact hg
  ·have:=zaa1 hs (x:=k.toNat) (y:=x) (by omega) hx
   omega
def insD (l:List Int) (v:Int):List Int:=((List.range 6).map (fun (u:Nat)=>(u:Int))).filter (fun u=>u==v||decide (u∈l))
theorem range_pw:((List.range 6).map (fun (u:Nat)=>(u:Int))).Pairwise (· < ·):=by decide
theorem zaa2 (l:List Int) (v:Int):(insD l v).Pairwise (· < ·):=range_pw.sublist List.filter_sublist
theorem zaen {u:Int}:u∈(List.range 6).map (fun (u:Nat)=>(u:Int))↔0≤u∧u≤5:=by
 rw[List.mem_map]
 constructor
 ·rintro ⟨x,hx,rfl⟩;rw[List.mem_range] at hx;omega
 ·intro h;exact ⟨u.toNat,by rw[List.mem_range];omega,by omega⟩
theorem mem_insD {l:List Int} {v u:Int}:u∈insD l v↔(0≤u∧u≤5)∧(u=v∨u∈l):=by
 unfold insD;rw[List.mem_filter,zaen];simp
theorem zah1 (l:List Int) (v:Int):zam (-1) (insD l v)=true:=z8t (fun q hq=>by have:=(mem_insD.1 hq).1;omega) (zaa2 l v)
theorem zapu {l:List Int} {v:Int} (h:zam (-1) l=true) (hv:v∈l):insD l v=l:=by
 obtain ⟨h1,h2⟩:=zxk h
 refine zaa0 (zaa2 l v) h2 fun u=>?_
 rw[mem_insD]
 constructor
 ·rintro ⟨_,rfl | h⟩<;>assumption
 ·intro hu;have:=h1 u hu;exact ⟨by omega,.inr hu⟩
theorem zala {l:List Int} {v k:Int} (h:zam (-1) l=true) (hv:v∉l) (hv5:0≤v∧v≤5) (hk:z8u l v k):l.take k.toNat++[v]++l.drop k.toNat=insD l v:=by
 obtain ⟨h1,h2⟩:=zxk h
 obtain ⟨k0,k1,k2,k3⟩:=hk
 have htake:∀ x,x∈l.take k.toNat→x < v:=by
  intro x hx
  obtain ⟨i,hi,rfl⟩:=List.getElem_of_mem hx
  rw[List.length_take] at hi
  have:=k2 i (by omega)
  rw[yy0,yy3 (by omega)] at this
  rw[List.getElem_take];exact this
 have hdrop:∀ x,x∈l.drop k.toNat→v < x:=by
  intro x hx
  have hm:x∈l:=List.mem_of_mem_drop hx
  obtain ⟨i,hi,rfl⟩:=List.getElem_of_mem hx
  rw[List.length_drop] at hi
  have:=k3 (k.toNat+i) (by omega) (by omega)
  rw[yy0,yy3 (by omega)] at this
  rw[List.getElem_drop] at hm ⊢
  have hne:l[k.toNat+i]≠v:=fun e=>hv (e ▸ hm)
  have h3:v≤l[k.toNat+i]:=this
  omega
 refine zaa0 ?_ (zaa2 l v) fun u=>?_
 ·rw[List.append_assoc,List.pairwise_append]
  refine ⟨h2.sublist (List.take_sublist _ _),?_,?_⟩
  ·rw[List.singleton_append,List.pairwise_cons]
   exact ⟨hdrop,h2.sublist (List.drop_sublist _ _)⟩
  ·intro a ha b hb
   rw[List.singleton_append] at hb
   rcases List.mem_cons.1 hb with rfl | hb
   ·exact htake a ha
   ·have:=htake a ha;have:=hdrop b hb;omega
 ·rw[mem_insD,List.append_assoc,List.mem_append,List.singleton_append,List.mem_cons]
  constructor
  ·rintro (hu | rfl | hu)
   ·have hm:=List.mem_of_mem_take hu
    have:=h1 u hm
    exact ⟨by omega,.inr hm⟩
   ·exact ⟨hv5,.inl rfl⟩
   ·have hm:=List.mem_of_mem_drop hu
    have:=h1 u hm
    exact ⟨by omega,.inr hm⟩
  ·rintro ⟨_,rfl | hu⟩
   ·exact .inr (.inl rfl)
   ·rw[← List.take_append_drop k.toNat l,List.mem_append] at hu
    exact hu.imp id .inr
def zyh (p:za) (v:Int):Int:=if (i64.wrap (Int.tdiv (p.Stake.Validators.Tokens.get v) 100)) > 1 then (i64.wrap (Int.tdiv (p.Stake.Validators.Tokens.get v) 100)) else 1
def zah2 (p:za) (c v:Int):za:={ p with Links:={ p.Links with Done:=p.Links.Done.set c (insD (p.Links.Done.get c) v) } }
def zaub (p:za) (a:Asked):Int:=if (p.Links.Base.get a.C) > a.P.Id then (p.Links.Base.get a.C) else a.P.Id
def zyi (p:za) (a:Asked):za×Bool :=
 if a.P.Kind=2 then ({ p with Stake:=zmj p.Stake a.C a.P.Id },true)
 else if a.P.Kind=4 then (if p.Stake.Validators.Dead.get a.P.V=true then (p,true) else ({ p with Stake:=(za1 (zex p.Stake a.P.V (zaub p a) 50).1 a.P.V 2).1 },true))
 else if p.Stake.Validators.Jailed.get a.P.V=true then (zah2 p a.C a.P.V,true)
 else if (zaaz p.Meter (zyh p a.P.V)).2=true then (zah2 { p with Stake:=(za1 p.Stake a.P.V 0).1,Meter:=(zaaz p.Meter (zyh p a.P.V)).1 } a.C a.P.V,true)
 else (p,false)
structure zah3 (p:za) (a:Asked):Prop where
 v:0≤a.P.V∧a.P.V≤5
 c:0≤a.C∧a.C < 2
 k:a.P.Kind=2∨a.P.Kind=3∨a.P.Kind=4
 w:p.Stake.Waits.length*64≤140737488351232
 d:zam (-1) (p.Links.Done.get a.C)=true
theorem znx {α:Type} (a:A2 α) {c:Int} (hc:0≤c∧c < 2):a.set c (a.get c)=a:=by
 rcases (show c=0∨c=1 by omega) with rfl | rfl<;>rfl
theorem zz2 {l:List Int} (h:zam (-1) l=true):l.length≤6:=by
 have:=zto h (by omega);omega
theorem zah4 {p:za} {a:Asked} (hf:zah3 p a) (hv:a.P.V∈p.Links.Done.get a.C):zah2 p a.C a.P.V=p:=by
 unfold zah2
 rw[zapu hf.d hv,znx _ hf.c]
theorem zah5 {l:List Int} {k v:Int} (hl:l.length≤6) (hk:z8u l v k):zbu l k [v]=some (l.take k.toNat++[v]++l.drop k.toNat):=by
 unfold zbu insP
 rw[if_pos ⟨hk.1,hk.2.1,by simp,by simp;omega⟩]
theorem zapv {p:za} {a:Asked} (hf:zah3 p a):zll a p=some ((zyi p a).2,(zyi p a).1):=by
 obtain ⟨hv,hc,hk,hw,hd⟩:=hf
 have hl:=zz2 hd
 obtain ⟨pk,hs,hpl⟩:=zahz (zxk hd).2 (by omega) a.P.V
 have hcl:=z75 (l:=p.Links.Done.get a.C) (by omega)
 have hin:=zah5 hl hpl
 have hmem:(!decide (a.P.V∈p.Links.Done.get a.C))=true→(p.Links.Done.get a.C).take pk.toNat++[a.P.V]++(p.Links.Done.get a.C).drop pk.toNat=insD (p.Links.Done.get a.C) a.P.V:=by
  intro h
  exact zala hd (by simpa using h) hv hpl
 rw[zll,znn,Tr.rg ⟨by omega,by omega⟩,Tr.rg hc]
 unfold zyi
 by_cases k2:a.P.Kind=2
 ·rw[Tr.rt (by simpa using k2),Tr.rg (by rw[zyc hw];rfl),Tr.rl,zyc hw,if_pos k2];rfl
 ·rw[Tr.rf (by simpa using k2),if_neg k2]
  by_cases k4:a.P.Kind=4
  ·rw[if_pos k4,Tr.rf (by rw[k4];decide),Tr.rt (by simpa using k4)]
   by_cases hdd:p.Stake.Validators.Dead.get a.P.V=true
   ·rw[if_pos hdd,hdd,zxi,Tr.rl]
   ·rw[if_neg hdd,Bool.eq_false_iff.2 hdd,zxj,Tr.rg (by rw[z6g];rfl),z6g]
    simp only[yy2]
    rw[Tr.rg (by rw[zaap];rfl),Tr.rl,zaap];rfl
  ·have k3:a.P.Kind=3:=by omega
   rw[if_neg k4,Tr.rt (by simpa using k3)]
   by_cases hj:p.Stake.Validators.Jailed.get a.P.V=true
   ·rw[if_pos hj,hj,zxi,Tr.rg (by rw[hs];rfl),hs]
    simp only[yy2]
    by_cases hm:a.P.V∈p.Links.Done.get a.C
    ·rw[decide_eq_true hm,zxi,Tr.rl,zah4 ⟨hv,hc,hk,hw,hd⟩ hm]
    ·rw[decide_eq_false hm,zxj,Tr.rg (by rw[hcl];rfl),hcl]
     simp only[yy2]
     rw[Tr.rg (by rw[hin];rfl),Tr.rl,hin,yy2,hmem (by simpa using hm)]
     rfl
   ·rw[if_neg hj,Bool.eq_false_iff.2 hj,zxj,Tr.rg (by decide),Tr.rg (by rw[zacy];rfl),zacy]
    simp only[yy2]
    rw[show (if (i64.wrap (Int.tdiv (p.Stake.Validators.Tokens.get a.P.V) 100)) > 1 then (i64.wrap (Int.tdiv (p.Stake.Validators.Tokens.get a.P.V) 100)) else 1)=zyh p a.P.V from rfl]
    by_cases ht:(zaaz p.Meter (zyh p a.P.V)).2=true
    ·rw[if_pos ht,ht,zxi,Tr.rg (by rw[zahg];rfl),Tr.rg (by rw[hs];rfl),hs,zahg]
     simp only[yy2]
     by_cases hm:a.P.V∈p.Links.Done.get a.C
     ·rw[decide_eq_true hm,zxi,Tr.rl]
      have:=zah4 (p:={ p with Stake:=(za1 p.Stake a.P.V 0).1,Meter:=(zaaz p.Meter (zyh p a.P.V)).1 }) (a:=a) ⟨hv,hc,hk,by show (za1 p.Stake a.P.V 0).1.Waits.length*64≤_;rw[z8j];exact hw,hd⟩ hm
      rw[this]
     ·rw[decide_eq_false hm,zxj,Tr.rg (by rw[hcl];rfl),hcl]
      simp only[yy2]
      rw[Tr.rg (by rw[hin];rfl),Tr.rl,hin,yy2,hmem (by simpa using hm)]
      rfl
    ·rw[if_neg ht,Bool.eq_false_iff.2 ht,zxj,Tr.rl]
def upP (p:za) (S:Stake) (D:A2 (List Int)) (M:Meter):za:={ p with Stake:=S,Links:={ p.Links with Done:=D },Meter:=M }
def DealI (p0 p:za):Prop:=∃ S D M,p=upP p0 S D M∧GoodS S∧zam (-1) D.x0=true∧zam (-1) D.x1=true
theorem DealI.get {p0 p:za} (h:DealI p0 p) {c:Int}:zam (-1) (p.Links.Done.get c)=true:=by
 obtain ⟨S,D,M,rfl,_,h0,h1⟩:=h
 show zam (-1) (D.get c)=true
 unfold A2.get;split<;>assumption
theorem DealI.good {p0 p:za} (h:DealI p0 p):GoodS p.Stake:=by obtain ⟨S,D,M,rfl,h,_⟩:=h;exact h
theorem zah6 {p0:za} {S:Stake} {D:A2 (List Int)} {M:Meter} {c v:Int} (h0:zam (-1) D.x0=true) (h1:zam (-1) D.x1=true):∃ D',zah2 (upP p0 S D M) c v=upP p0 S D' M∧zam (-1) D'.x0=true∧zam (-1) D'.x1=true:=by
 refine ⟨D.set c (insD (D.get c) v),rfl,?_,?_⟩
 ·show zam (-1) (if c=0 then insD (D.get c) v else D.x0)=true
  split
  ·exact zah1 _ _
  ·exact h0
 ·show zam (-1) (if c=1 then insD (D.get c) v else D.x1)=true
  split
  ·exact zah1 _ _
  ·exact h1
theorem zte {s:Stake} (hg:GoodS s) (v h f:Int):GoodS (zex s v h f).1:=(zaeg hg v h f).1
theorem zrj {s:Stake} (hg:GoodS s) (v:Int) {what:Int} (hw:what=0∨what=1∨what=2):GoodS (za1 s v what).1:=(zaef hg v hw).1
theorem zac0 {p0 p:za} (h:DealI p0 p) (a:Asked):DealI p0 (zyi p a).1:=by
 obtain ⟨S,D,M,rfl,hS,h0,h1⟩:=h
 unfold zyi
 split
 ·exact ⟨zmj S a.C a.P.Id,D,M,rfl,zy1 hS,h0,h1⟩
 ·split
  ·split
   ·exact ⟨S,D,M,rfl,hS,h0,h1⟩
   ·exact ⟨_,D,M,rfl,zrj (zte hS _ _ _) _ (.inr (.inr rfl)),h0,h1⟩
  ·split
   ·obtain ⟨D',e,k0,k1⟩:=zah6 (p0:=p0) (S:=S) (M:=M) (c:=a.C) (v:=a.P.V) h0 h1
    exact ⟨S,D',M,e,hS,k0,k1⟩
   ·split
    ·obtain ⟨D',e,k0,k1⟩:=zah6 (p0:=p0) (S:=(za1 S a.P.V 0).1) (M:=(zaaz M (zyh (upP p0 S D M) a.P.V)).1) (c:=a.C) (v:=a.P.V) h0 h1
     exact ⟨_,D',_,e,zrj hS _ (.inl rfl),k0,k1⟩
    ·exact ⟨S,D,M,rfl,hS,h0,h1⟩
def zvu (t:za×A2 Bool×List Asked) (a:Asked):za×A2 Bool×List Asked :=
 if t.2.1.get a.C=true then (t.1,t.2.1.set a.C true,t.2.2++[a])
 else if (zyi t.1 a).2=true then ((zyi t.1 a).1,t.2.1,t.2.2)
 else ((zyi t.1 a).1,t.2.1.set a.C true,t.2.2++[a])
def z6m (p0:za) (i:Nat) (t:za×A2 Bool×List Asked):Prop :=
 DealI p0 t.1∧t.2.2.length≤i∧(∀ c:Int,0≤c∧c < 2→t.2.1.get c=t.2.2.any (fun b=>b.C==c))∧∀ b,b∈t.2.2→b∈p0.Queue
theorem zak {α:Type} (a:A2 α) {i j:Int} (y:α) (hi:0≤i∧i < 2) (hj:0≤j∧j < 2):(a.set i y).get j=if j=i then y else a.get j:=by
 rcases (show i=0∨i=1 by omega) with rfl | rfl<;>rcases (show j=0∨j=1 by omega) with rfl | rfl<;>rfl
theorem z6n {p0:za} {i:Nat} {t:za×A2 Bool×List Asked} (h:z6m p0 i t) {a:Asked} (hc:0≤a.C∧a.C < 2) (ha:a∈p0.Queue):z6m p0 (i+1) (zvu t a):=by
 obtain ⟨h1,h2,h3,h4⟩:=h
 have more:∀ p,DealI p0 p→z6m p0 (i+1) (p,t.2.1.set a.C true,t.2.2++[a]):=by
  intro p hp
  refine ⟨hp,by simp;omega,fun c hcc=>?_,fun b hb=>?_⟩
  ·show (t.2.1.set a.C true).get c=(t.2.2++[a]).any (fun b=>b.C==c)
   rw[zak _ _ hc hcc,List.any_append]
   by_cases e:c=a.C
   ·rw[if_pos e];simp[e]
   ·rw[if_neg e,h3 c hcc];simp[Ne.symm e]
  ·rcases List.mem_append.1 hb with hb | hb
   ·exact h4 b hb
   ·rw[List.mem_singleton.1 hb];exact ha
 unfold zvu
 split
 ·exact more _ h1
 ·split
  ·exact ⟨zac0 h1 a,by simp only[];omega,h3,h4⟩
  ·exact more _ (zac0 h1 a)
theorem zapw {p0 p:za} (hp:DealI p0 p) {q:za} {a:Asked} (ha:zt5 q a=true):zah3 p a:=by
 unfold zt5 at ha
 simp only[yy7,decide_eq_true_eq,beq_iff_eq,Bool.not_eq_true',beq_eq_false_iff_ne] at ha
 obtain ⟨⟨⟨⟨c0,c1⟩,_⟩,hg⟩,hk⟩:=ha
 have hf:=zj9 hg
 exact ⟨⟨hf.2.2.2.2.1,hf.2.2.2.2.2.1⟩,⟨c0,c1⟩,by omega,hp.good.fit,hp.get⟩
theorem zalb {p0:za} {q:za} {now:Int} {d:za} {l:List Asked} {p:za} (hp:DealI p0 p) (hl:l.length*88≤140737488351232) (ha:∀ a,a∈l→zt5 q a=true∧a∈p0.Queue) :
  zfz now l l.length 0 p d ⟨false,false⟩ []=some (now,(l.foldl zvu (p,⟨false,false⟩,[])).1,d,(l.foldl zvu (p,⟨false,false⟩,[])).2.2):=by
 rw[zfz]
 have:=zjd (F:=fun s:Int×(List Asked)×Int×Int×za×za×(A2 Bool)×(List Asked)=>(zeu s.1 s.2.1 s.2.2.1 s.2.2.2.1 s.2.2.2.2.1 s.2.2.2.2.2.1 s.2.2.2.2.2.2.1 s.2.2.2.2.2.2.2).run) l default
  (fun i (t:za×A2 Bool×List Asked)=>(now,l,(l.length:Int),(i:Int),t.1,d,t.2.1,t.2.2)) (z6m p0) zvu (fun t=>(now,t.1,d,t.2.2)) (by
   intro t _
   simp only[zeu]
   rw[Tr.rf (by simp),Tr.rl]) (by
   intro i t hi hI
   obtain ⟨a1,a2⟩:=ha _ (zf0 (l:=l) (k:=i) hi default)
   have hfit:=zapw hI.1 a1
   refine ⟨?_,z6n hI hfit.c a2⟩
   have hlen:=hI.2.1
   simp only[zeu,yy4]
   rw[Tr.rt (by simpa using hi),Tr.rg ⟨by omega,by show (i:Int) < (l.length:Nat);omega⟩,Tr.rg hfit.c]
   unfold zvu
   by_cases hw:t.2.1.get (l.getD i default).C=true
   ·rw[if_pos hw,Tr.rt hw,Tr.rt (show true=true from rfl),Tr.rt (show true=true from rfl),Tr.rt (show true=true from rfl)]
    rw[Tr.rg hfit.c,Tr.rg (by show (t.2.2.length+1)*88≤_;omega),Tr.rl,zw (by omega)]
   ·rw[if_neg hw,Tr.rf (Bool.eq_false_iff.2 hw),Tr.rb (zapv hfit)]
    simp only[]
    by_cases hd:(zyi t.1 (l.getD i default)).2=true
    ·rw[if_pos hd,Tr.rf (by rw[hd];rfl),Tr.rl,zw (by omega)]
    ·rw[if_neg hd,Tr.rt (by rw[Bool.eq_false_iff.2 hd];rfl),Tr.rg hfit.c,Tr.rg (by show (t.2.2.length+1)*88≤_;omega),Tr.rl,zw (by omega)]) (p,⟨false,false⟩,[]) ⟨hp,by simp,fun c hc=>by rcases (show c=0∨c=1 by omega) with rfl | rfl<;>rfl,fun b hb=>by cases hb⟩
 exact this
def dOf (p:za) (c:Int):List Power:=zoo (fP (p.Links.Told.get c)) (fP p.Set)
def pkOf (p:za) (c:Int):Packet:=⟨1,p.Height,0,0,dOf p c,p.Links.Done.get c⟩
def zn4 (p:za) (c now:Int):zim×Int:=z53 (zhn p.Links c) (zgh (pkOf p c)).1 (now+40)
def zalc (p:za) (c now:Int):za :=
 { p with Links:={ p.Links with Told:=p.Links.Told.set c p.Set,Fresh:=p.Links.Fresh.set c false,Done:=p.Links.Done.set c [],Said:=p.Links.Said.set c (zn4 p c now).1.Said,Due:=p.Links.Due.set c (zn4 p c now).1.Due,Got:=p.Links.Got.set c (zn4 p c now).1.Got,Closed:=p.Links.Closed.set c (zn4 p c now).1.Closed } }
def zy7 (p:za) (c:Int):Prop:=p.Links.On.get c=false∨(dOf p c=[]∧p.Links.Done.get c=[]∧p.Links.Fresh.get c=false)
instance (p:za) (c:Int):Decidable (zy7 p c):=by
 have:Decidable (dOf p c=[]):=decidable_of_iff ((dOf p c).length=0) List.length_eq_zero_iff
 have:Decidable (p.Links.Done.get c=[]):=decidable_of_iff ((p.Links.Done.get c).length=0) List.length_eq_zero_iff
 exact inferInstanceAs (Decidable (_∨_))
def zd2 (p:za) (c now:Int):za :=
 if zy7 p c then p else if (zgh (pkOf p c)).2≠0 then p else if (zn4 p c now).2≠0 then p else zalc p c now
structure z6o (p:za) (c:Int):Prop where
 t:(p.Links.Told.get c).length≤9223372036854775807
 s:p.Set.length≤6
 d:(p.Links.Done.get c).length≤6
 u:(p.Links.Due.get c).length≤9223372036854775807
theorem quiet_iff {p:za} {c:Int}:zy7 p c↔p.Links.On.get c=false∨((dOf p c).length=0∧(p.Links.Done.get c).length=0∧p.Links.Fresh.get c=false):=by
 unfold zy7;rw[List.length_eq_zero_iff,List.length_eq_zero_iff]
theorem zvv {l:List Power} (h:l.length≤6):zai l=some l:=by
 rw[zai,zdl]
 refine Tr.run_split (fun h0=>?_) (fun _=>?_) (.inr trivial)
 ·rw[Tr.rl,List.length_eq_zero_iff.1 h0]
 ·rw[Tr.rg (by simp only[za3,List.length_nil];omega),Tr.rl]
theorem zah7 {p:za} {c now:Int} (hf:z6o p c) (hc:0≤c∧c < 2) (hn:0≤now∧now≤1099511627776):zhs c now p=some (zd2 p c now):=by
 obtain ⟨ft,fs,fd,fu⟩:=hf
 have hdl:(dOf p c).length≤6:=zad3 _ _
 have hD:zdx (p.Links.Told.get c) p.Set=some (dOf p c):=zakx ft (by omega)
 have hE:zba (⟨1,p.Height,0,0,dOf p c,p.Links.Done.get c⟩:Packet)=some (zgh (pkOf p c)):=z1h (by show (dOf p c).length*16≤_;omega) (by show (p.Links.Done.get c).length*8≤_;omega)
 rw[zhs,znk,Tr.rg hc,Tr.rg (by rw[hD];rfl),hD]
 simp only[yy2]
 unfold zd2
 by_cases hq:zy7 p c
 ·rw[if_pos hq,Tr.rt (by
   rw[quiet_iff] at hq
   simp only[Bool.or_eq_true,yy7,Bool.not_eq_true',beq_iff_eq]
   rcases hq with h | ⟨h1,h2,h3⟩
   ·exact .inl h
   ·exact .inr ⟨⟨by omega,h3⟩,by omega⟩),Tr.rl]
 ·rw[if_neg hq,Tr.rf (by
   rw[Bool.eq_false_iff]
   intro h
   simp only[Bool.or_eq_true,yy7,Bool.not_eq_true',beq_iff_eq] at h
   refine hq (quiet_iff.2 ?_)
   rcases h with h | ⟨⟨h1,h2⟩,h3⟩
   ·exact .inl h
   ·exact .inr ⟨by omega,by omega,h2⟩),Tr.rg (by rw[hE];rfl),hE]
  simp only[yy2]
  by_cases he:(zgh (pkOf p c)).2≠0
  ·rw[if_pos he,Tr.rt (by simpa using he),Tr.rl]
  ·rw[if_neg he,Tr.rf (by simpa using he),zl (x:=now+40) (by omega) (by omega),Tr.rb (zamq _ _ _)]
   by_cases hs:(zn4 p c now).2≠0
   ·rw[if_pos hs,Tr.rt (by simpa[zn4] using hs),Tr.rl]
   ·rw[if_neg hs,Tr.rf (by simpa[zn4] using hs),Tr.rg (by rw[zvv fs];rfl),Tr.rl,zvv fs]
    rfl
def zny (p:za) (now:Int):za:={ p with Height:=p.Height+1,Time:=now,Meter:=zael p.Meter (allP p.Set) now }
def zdg (p:za) (now:Int):za×A2 Bool×List Asked:=p.Queue.foldl zvu (zny p now,⟨false,false⟩,[])
def zml (p:za) (now:Int):za :=
 { (zdg p now).1 with Stake:=(z3a (zdg p now).1.Stake now).1,Set:=setS (z3a (zdg p now).1.Stake now).1,Queue:=(zdg p now).2.2 }
def zgs (p:za) (now:Int):za×List Int×Int :=
 if z8 p=true∧p.Time≤now∧now≤1099511627776 then (zd2 (zd2 (zml p now) 0 now) 1 now,(z3a (zdg p now).1.Stake now).2.1,0) else (p,[],2)
theorem zac1 (l:List Power):i6 (allP l):=by
 have:∀ (l:List Power) (t:Int),i6 t→i6 (l.foldl (fun t p=>i64.wrap (t+p.N)) t):=by
  intro l
  induction l with
  | nil=>intro t ht;exact ht
  | cons q l ih=>intro t _;exact ih _ (by show i6 (i64.wrap (t+q.N));rw[IntKind.wrap_i64];unfold i6;omega)
 exact this l 0 (by unfold i6;omega)
theorem z1z {p:za} {now:Int} (hg:z8 p=true):DealI (zny p now) (zny p now):=by
 obtain ⟨g1,_,_,k0,k1,_⟩:=zid hg
 unfold z8p at k0 k1
 simp only[yy7] at k0 k1
 exact ⟨p.Stake,p.Links.Done,zael p.Meter (allP p.Set) now,rfl,g1,k0.2,k1.2⟩
theorem zac2 {p0:za}:∀ (l:List Asked) (i:Nat) (t:za×A2 Bool×List Asked),z6m p0 i t→(∀ a,a∈l→(0≤a.C∧a.C < 2)∧a∈p0.Queue)→z6m p0 (i+l.length) (l.foldl zvu t)
 | [],i,t,h,_=>h
 | a::l,i,t,h,ha=>by
  have:=zac2 l (i+1) (zvu t a) (z6n h (ha a (List.mem_cons_self ..)).1 (ha a (List.mem_cons_self ..)).2) (fun b hb=>ha b (List.mem_cons_of_mem _ hb))
  rw[List.foldl_cons,List.length_cons,show i+(l.length+1)=i+1+l.length by omega]
  exact this
theorem zaa3 {p:za} (hg:z8 p=true):∀ a,a∈p.Queue→zt5 p a=true∧(0≤a.C∧a.C < 2):=by
 intro a ha
 have h:=List.all_eq_true.1 (zid hg).2.2.2.2.2 a ha
 refine ⟨h,?_⟩
 unfold zt5 at h
 simp only[yy7,decide_eq_true_eq] at h
 exact h.1.1.1
theorem zqc {p:za} {now:Int} (hg:z8 p=true):z6m (zny p now) p.Queue.length (zdg p now):=by
 have:=zac2 (p0:=zny p now) p.Queue 0 (zny p now,⟨false,false⟩,[]) ⟨z1z hg,by simp,fun c hc=>by rcases (show c=0∨c=1 by omega) with rfl | rfl<;>rfl,fun b hb=>by cases hb⟩ (fun a ha=>⟨(zaa3 hg a ha).2,ha⟩)
 rwa [Nat.zero_add] at this
theorem zac3 {p:za} (hf:FitPr 140737488351232 p) {now:Int} (hg:z8 p=true) (c:Int):z6o (zml p now) c:=by
 have hq:=zqc (now:=now) hg
 obtain ⟨S,D,M,e,hS,d0,d1⟩:=hq.1
 have ht:=hf.told c
 have hu:=hf.due c
 refine ⟨?_,z1d _,?_,?_⟩
 ·show ((zdg p now).1.Links.Told.get c).length≤_
  rw[e];show (p.Links.Told.get c).length≤_;omega
 ·show ((zdg p now).1.Links.Done.get c).length≤6
  exact zz2 hq.1.get
 ·show ((zdg p now).1.Links.Due.get c).length≤_
  rw[e];show (p.Links.Due.get c).length≤_;omega
theorem zald {p:za} {now:Int} (h:z6o p 1):z6o (zd2 p 0 now) 1:=by
 unfold zd2
 split
 ·exact h
 ·split
  ·exact h
  ·split
   ·exact h
   ·exact ⟨h.t,h.s,h.d,h.u⟩
theorem zac4 {p:za} {now:Int}:(((!z8 p)||(decide (now < p.Time)))||(decide (now > 1099511627776))) = !decide (z8 p=true∧p.Time≤now∧now≤1099511627776):=by
 rw[Bool.eq_iff_iff]
 simp only[Bool.or_eq_true,Bool.not_eq_true',decide_eq_true_eq,yy8]
 cases z8 p<;>simp<;>omega
theorem zaeo {p:za} (hf:FitPr 140737488351232 p) {now:Int}:zci p now=some (zgs p now):=by
 have hset:=hf.set
 rw[zci,zpg,Tr.rb (zic hf)]
 unfold zgs
 by_cases hg:z8 p=true∧p.Time≤now∧now≤1099511627776
 ·obtain ⟨hg1,hg2⟩:=hg
  have hnum:=(zid hg1).2.1
  unfold zy2 at hnum
  rw[if_pos ⟨hg1,hg2⟩,Tr.rf (by rw[zac4,decide_eq_true ⟨hg1,hg2⟩];rfl),Tr.rg (by rw[zams (by omega)];rfl),zams (by omega)]
  simp only[yy2]
  rw[Tr.rg (by rw[zacx (zac1 _)];rfl),zacx (zac1 _),zl (x:=p.Height+1) (by omega) (by omega)]
  simp only[yy2]
  have hloop:=zalb (p0:=zny p now) (q:=p) (now:=now) (d:=default) (l:=p.Queue) (p:=zny p now) (z1z hg1) hf.queue (fun a ha=>⟨(zaa3 hg1 a ha).1,ha⟩)
  have hinv:=zqc (now:=now) hg1
  have hgs:GoodS (zdg p now).1.Stake:=hinv.1.good
  have hpay:=zacr hgs now
  have hz:(z3a (zdg p now).1.Stake now).2.2=0:=by rw[z6k hgs]
  rw[Tr.rb (show zfz now p.Queue ((p.Queue.length:Nat):Int) 0 (⟨p.Height+1,now,p.Stake,p.Set,p.Links,zael p.Meter (allP p.Set) now,p.Queue⟩:za) default ⟨false,false⟩ []=some (now,(zdg p now).1,default,(zdg p now).2.2) from hloop)]
  simp only[]
  rw[Tr.rb (show zoh (zdg p now).1.Stake now=_ from zat3),Tr.rf (by rw[hz];rfl),Tr.rb (zat5 hpay)]
  have h0:=zah7 (now:=now) (zac3 hf (now:=now) hg1 0) (by omega) (by omega)
  have h1:=zah7 (now:=now) (zald (now:=now) (zac3 hf (now:=now) hg1 1)) (by omega) (by omega)
  rw[Tr.rb (v:=((z3a (zdg p now).1.Stake now).2.1,zd2 (zd2 (zml p now) 0 now) 1 now,default)) (by
   show zja now (z3a (zdg p now).1.Stake now).2.1 0 (zml p now) default=_
   rw[zja,zbs (s':=(now,(z3a (zdg p now).1.Stake now).2.1,((1:Nat):Int),zd2 (zml p now) 0 now,default)) (by
     simp only[zev]
     rw[Tr.rt (by simp),Tr.rb h0,Tr.rl];rfl),
    zbs (s':=(now,(z3a (zdg p now).1.Stake now).2.1,((2:Nat):Int),zd2 (zd2 (zml p now) 0 now) 1 now,default)) (by
     simp only[zev]
     rw[Tr.rt (by simp)]
     rw[Tr.rb (show zhs ((1:Nat):Int) now _=_ from h1),Tr.rl];rfl),
    zda (by
     simp only[zev]
     rw[Tr.rf (by simp),Tr.rl])]),Tr.rl]
 ·rw[if_neg hg,Tr.rt (by rw[zac4,decide_eq_false hg];rfl),Tr.rl]
theorem z4d:z8 z8r=true:=by decide
theorem zac5 {p:za} {c now:Int} (h:p.Links.On.get c=false):zd2 p c now=p:=by unfold zd2;rw[if_pos (.inl h)]
theorem ze4 (l:List Asked):Sl.len (.asked l)=l.length:=rfl
theorem z4e {s:Stake} (hg:GoodS s) {v h:Int} (hv:0≤v∧v < 6):(zex s v h 50).2.2=0:=by
 unfold zex
 rw[if_neg (by rw[z37 hg (by omega) hv];simp),if_neg (by omega)]
theorem zah8 {s:Stake} (hg:GoodS s) {v:Int} (hv:0≤v∧v < 6) (hd:s.Validators.Dead.get v=false):(za1 s v 2).2=0:=by
 unfold za1
 rw[if_neg (by rw[z37 hg (by omega) hv];simp),if_neg (by omega),if_neg (by rw[hd];simp),if_neg (by omega)]
theorem zaep (s:Stake) (v h f:Int):(zex s v h f).1.Validators.Dead=s.Validators.Dead:=by
 unfold zex
 repeat' split
 all_goals rfl
def ztf (p:za) (v h:Int):za×Int :=
 if z8 p=false then (p,2) else if 0≤v∧v < 6 then (if 1≤h∧h≤p.Height then (if p.Stake.Validators.Dead.get v=true then (p,15) else ({ p with Stake:=(za1 (zex p.Stake v h 50).1 v 2).1 },0)) else (p,2)) else (p,4)
theorem z10 {p:za} (hf:FitPr 140737488351232 p) {v h:Int}:zg2 p v h=some (ztf p v h):=by
 rw[zg2,zh8,Tr.rb (zic hf)]
 unfold ztf
 cases hg:z8 p with
 | false=>rw[zxj,Tr.rl,if_pos rfl]
 | true =>
  rw[zxi,if_neg (by simp)]
  by_cases hv:0≤v∧v < 6
  ·rw[Tr.rf (by simp;omega),if_pos hv]
   by_cases hh:1≤h∧h≤p.Height
   ·rw[Tr.rf (by simp;omega),if_pos hh,Tr.rg hv]
    cases hd:p.Stake.Validators.Dead.get v with
    | true=>rw[Tr.rt rfl,Tr.rl,if_pos rfl]
    | false =>
     have hs:=(zid hg).1
     rw[Tr.rf rfl,if_neg (by simp),Tr.rb z6g,Tr.rf (by rw[z4e hs hv];rfl),Tr.rb zaap,Tr.rf (by rw[zah8 (zte hs v h 50) hv (by rw[zaep];exact hd)];rfl),Tr.rl]
   ·rw[Tr.rt (by simp;omega),Tr.rl,if_neg hh]
  ·rw[Tr.rt (by simp;omega),Tr.rl,if_neg hv]
def zl0 (p:za) (c:Int) (s:List UInt8):za×Int :=
 if z8 p=false then (p,2) else if (0≤c∧c < 2)∧p.Links.On.get c=true then (if (zau s).2≠0 then (p,(zau s).2) else if (zau s).1.Kind=1 then (p,3) else ({ p with Queue:=p.Queue++[⟨c,(zau s).1⟩] },0)) else (p,4)
theorem z4f {l:List Asked} (h:l.length*88≤140737488351232):zao l=some l:=by
 rw[zao,zei]
 refine Tr.run_split (fun h0=>?_) (fun _=>?_) (.inr trivial)
 ·rw[Tr.rl,List.length_eq_zero_iff.1 h0]
 ·rw[Tr.rg (by simp only[ze4,List.length_nil];omega),Tr.rl]
theorem zaa4 {p:za} (hf:FitPr 140737488351232 p) {c:Int} {a:ByteArray} (ha:a.size≤140737488355328):za0 p c a=some (zl0 p c a.data.toList):=by
 have e1:zeo a=some (zau a.data.toList):=z8a (s:=a.data.toList) (by have:a.data.toList.length=a.size:=rfl;omega)
 have hq:=hf.queue
 rw[za0,zni,Tr.rb e1,Tr.rb (zic hf)]
 simp only[z4f hf.queue,Option.isSome_some,yy2]
 unfold zl0
 cases hg:z8 p with
 | false=>rw[zxj,Tr.rl,if_pos rfl]
 | true =>
  rw[zxi,if_neg (by simp),Tr.rg (by
   intro h0
   simp only[Bool.or_eq_false_iff,yy8] at h0
   exact ⟨by omega,trivial⟩)]
  by_cases hc:(0≤c∧c < 2)∧p.Links.On.get c=true
  ·rw[if_pos hc,Tr.rf (by rw[hc.2];simp;omega)]
   by_cases hd:(zau a.data.toList).2=0
   ·rw[Tr.rf (by simpa using hd),if_neg (by simpa using hd)]
    by_cases hk:(zau a.data.toList).1.Kind=1
    ·rw[Tr.rt (by simpa using hk),if_pos hk,Tr.rl]
    ·rw[Tr.rf (by simpa using hk),if_neg hk,Tr.rg (by trivial),Tr.rg (by simp only[ze4,yy5];omega),Tr.rl]
   ·rw[Tr.rt (by simpa using hd),if_pos hd,Tr.rl]
  ·rw[if_neg hc,Tr.rt (by
    simp only[Bool.or_eq_true,decide_eq_true_eq,Bool.not_eq_true']
    by_cases h1:0≤c∧c < 2
    ·exact .inr (Bool.eq_false_iff.2 (fun h2=>hc ⟨h1,h2⟩))
    ·exact .inl (by omega)),Tr.rl]
theorem z11 {p:Packet} (h:zcz p=0):p.Set.length≤6∧p.Done.length≤6:=by
 obtain ⟨_,_,_,_,_,_,_,_,g9,g10,_⟩:=zj9 h
 have l1:=zik g9 (by omega)
 exact ⟨by omega,zz2 g10⟩
theorem zac6 {s:List UInt8} (h:(zau s).2=0):zcz (zau s).1=0:=by
 unfold zau at h ⊢
 split
 ·rename_i k;rw[if_pos k] at h;cases h
 ·rename_i k
  rw[if_neg k] at h
  split
  ·rename_i k2;rw[if_pos k2] at h;exact absurd h k2
  ·rename_i k2;exact Classical.not_not.1 k2
def zgx (L:Links) (c H:Int) (T:List Power) (f:Bool):Links :=
 ⟨L.On.set c true,L.Gone.set c false,L.Base.set c H,L.Told.set c T,L.Fresh.set c f,L.Done.set c [],L.Said.set c [],L.Due.set c [],L.Got.set c 0,L.Closed.set c false,L.SHeight.set c 0,L.STime.set c 0,L.SSaid.set c 0,L.SGot.set c 0⟩
def zl1 (p:za) (c:Int) (W:List Wait) (f:Bool):za:={ p with Stake:={ p.Stake with Waits:=W },Links:=zgx p.Links c p.Height p.Set f }
def zdh (c H:Int) (w:Wait):Wait:=if H < w.Height then { w with h0:=if c=0 then w.Height else w.h0,h1:=if c=1 then w.Height else w.h1 } else w
def zt6 (p:za):Bool:=p.Stake.Waits.any (fun w=>decide (p.Height < w.Height))
def zdr (p:za) (c:Int):za×Int :=
 if z8 p=false then (p,2) else if 0≤c∧c < 2 then (if p.Links.Gone.get c=true then (p,11) else if p.Links.On.get c=true then (p,5) else if p.Height < 1∨p.Set.length=0 then (p,13)
  else (zl1 p c (p.Stake.Waits.map (zdh c p.Height)) (zt6 p),0)) else (p,4)
theorem zac7 {α:Type} (q:α→Bool):∀ (l:List α) (b:Bool),l.foldl (fun t w=>t||q w) b=(b||l.any q)
 | [],b=>by simp
 | a::l,b=>by rw[List.foldl_cons,zac7 q l,List.any_cons,Bool.or_assoc]
theorem zaeq {α:Type} (a:A2 α) (c:Int) (x y:α):(a.set c x).set c y=a.set c y:=by
 unfold A2.set
 by_cases h:c=0
 ·subst h;rfl
 ·by_cases h1:c=1
  ·subst h1;rfl
  ·simp[h,h1]
theorem zauc {l W:List Wait} {i:Nat} {w:Wait} (hi:i < W.length) (hg:W.getD i default=w):W.set i w=W:=by rw[← hg,z6e hi]
theorem zaer {p z:za} {c:Int} (hc:0≤c∧c < 2) (hw:p.Stake.Waits.length*64≤140737488351232) :
  zg1 c p.Stake.Waits.length 0 (zl1 p c p.Stake.Waits false) z=some (zl1 p c (p.Stake.Waits.map (zdh c p.Height)) (zt6 p),z):=by
 rw[zg1]
 have:=z6f (F:=fun s:Int×Int×Int×za×za=>(zc9 s.1 s.2.1 s.2.2.1 s.2.2.2.1 s.2.2.2.2).run) p.Stake.Waits default
  (fun i W (f:Bool)=>(c,(p.Stake.Waits.length:Int),(i:Int),zl1 p c W f,z)) (fun _ _=>True) (zdh c p.Height) (fun t w=>t||decide (p.Height < w.Height)) (fun W f=>(zl1 p c W f,z)) ?_ ?_ false trivial
 ·rw[zac7] at this
  exact this
 ·intro W t hW _
  simp only[zc9];rw[Tr.rf (by simp),Tr.rl]
 ·intro i W t hi hW hg _
  refine ⟨?_,trivial⟩
  simp only[zc9]
  rw[yy4,show (zl1 p c W t).Stake.Waits=W from rfl,hg,show (zl1 p c W t).Height=p.Height from rfl]
  generalize hw':p.Stake.Waits.getD i default=w at hg ⊢
  rw[Tr.rt (by simpa using hi),Tr.rg ⟨by omega,by rw[za8];omega⟩]
  by_cases hp:p.Height < w.Height
  ·rw[Tr.rt (by simpa using hp),Tr.rg hc,Tr.rg hc,Tr.rl,zw (by omega)]
   have e:zdh c p.Height w={ w with h0:=if c=0 then w.Height else w.h0,h1:=if c=1 then w.Height else w.h1 }:=if_pos hp
   rw[e,decide_eq_true hp,Bool.or_true]
   rw[show (zl1 p c W t).Links.Fresh=p.Links.Fresh.set c t from rfl,zaeq]
   rfl
  ·rw[Tr.rf (by simpa using hp),Tr.rl,zw (by omega)]
   have e:zdh c p.Height w=w:=if_neg hp
   rw[e,decide_eq_false hp,Bool.or_false,zauc (l:=W) (by omega) hg]
theorem z8v {p:za} (hf:FitPr 140737488351232 p) {c:Int}:zaj p c=some (zdr p c):=by
 rw[zaj,zlk,Tr.rb (zic hf)]
 unfold zdr
 cases hg:z8 p with
 | false=>rw[zxj,Tr.rl,if_pos rfl]
 | true =>
  rw[zxi,if_neg (by simp)]
  by_cases hc:0≤c∧c < 2
  ·rw[Tr.rf (by simp;omega),if_pos hc,Tr.rg hc]
   cases h1:p.Links.Gone.get c with
   | true=>rw[Tr.rt rfl,Tr.rl,if_pos rfl]
   | false =>
    rw[Tr.rf rfl,if_neg (by simp),Tr.rg hc]
    cases h2:p.Links.On.get c with
    | true=>rw[Tr.rt rfl,Tr.rl,if_pos rfl]
    | false =>
     rw[Tr.rf rfl,if_neg (by simp)]
     have hs:=zik (zid hg).2.2.1 (by omega)
     by_cases h3:p.Height < 1∨p.Set.length=0
     ·rw[if_pos h3,Tr.rt (by simp only[Bool.or_eq_true,decide_eq_true_eq,beq_iff_eq];omega),Tr.rl]
     ·have hcl:=zvv (l:=p.Set) (by omega)
      rw[if_neg h3,Tr.rf (by simp only[Bool.or_eq_false_iff,yy8,beq_eq_false_iff_ne];omega),Tr.rg (by rw[hcl];rfl),Tr.rg hc,Tr.rb (zxf hf.waits),hcl,Tr.rb (v:=(zl1 p c (p.Stake.Waits.map (zdh c p.Height)) (zt6 p),default)) (by exact zaer hc hf.waits),Tr.rl]
  ·rw[Tr.rt (by simp;omega),Tr.rl,if_neg hc]
def ztt (L:Links) (c:Int):Links:={ L with On:=L.On.set c false,Gone:=L.Gone.set c true,Fresh:=L.Fresh.set c false,Done:=L.Done.set c [],Closed:=L.Closed.set c true }
def zzq (c:Int) (a:Asked):Bool:=a.C != c
def zrk (p:za) (c:Int):za:={ p with Stake:=zmj p.Stake c 1099511627776,Links:=ztt p.Links c,Queue:=p.Queue.filter (zzq c) }
def zrl (p:za) (c:Int):za:=if z8 p=true∧(0≤c∧c < 2)∧p.Links.On.get c=true then zrk p c else p
theorem zamv (a:Asked) (c:Int):zee a c=some (!zzq c a,c):=by
 rw[zee,zh2,Tr.rl]
 unfold zzq
 simp[bne]
theorem zkc {α:Type} {l:List α} {i:Nat} (h:i < l.length) (d:α):l.take (i+1)=l.take i++[l.getD i d]:=by
 rw[List.take_succ_eq_append_getElem h,zqa h]
theorem zaes {l:List Asked} {c:Int} (hl:l.length*88≤140737488351232) :
  ∃ r,zbl l.length 0 c l=some r ∧
   (match r with | .inl y=>∃ k:Nat,y=((k:Int),c,l)∧k < l.length∧(l.take k).all (zzq c)=true∧zzq c (l.getD k default)=false | .inr y=>y=(c,l)∧l.all (zzq c)=true):=by
 rw[zbl]
 have:=zgg (F:=fun s:Int×Int×Int×(List Asked)=>(zab s.1 s.2.1 s.2.2.1 s.2.2.2).run) l.length (fun i (_:Unit)=>((l.length:Int),(i:Int),c,l)) (fun i _=>(l.take i).all (zzq c)=true)
  (fun i _ r=>match r with | .inl y=>∃ k:Nat,y=((k:Int),c,l)∧k < l.length∧(l.take k).all (zzq c)=true∧zzq c (l.getD k default)=false | .inr y=>y=(c,l)∧l.all (zzq c)=true) ?_ ?_ 0 () (Nat.zero_le _) rfl
 ·exact this
 ·intro t h
  refine ⟨.inr (c,l),?_,rfl,by rwa [List.take_length] at h⟩
  simp only[zab];rw[Tr.rf (by simp),Tr.rl]
 ·intro i t hi h
  simp only[zab]
  rw[yy4,Tr.rt (by simpa using hi),Tr.rg ⟨by omega,by rw[ze4];omega⟩,Tr.rb (zamv _ _)]
  cases hn:zzq c (l.getD i default) with
  | true=>exact .inl ⟨(),by rw[Tr.rf (by rfl),Tr.rl,zw (by omega)],by rw[zkc hi default,List.all_append,h,List.all_cons,hn];rfl,fun r hr=>hr⟩
  | false=>exact .inr ⟨.inl ((i:Int),c,l),by rw[Tr.rt (by rfl),Tr.rl],i,rfl,hi,h,hn⟩
theorem zaa5 {l:List Asked} {c:Int} (hl:l.length*88≤140737488351232) {k:Nat} (hk:k < l.length) (ha:(l.take k).all (zzq c)=true) (hn:zzq c (l.getD k default)=false) :
  ∃ r,zbq k ((k+1:Nat):Int) c l=some r∧∃ n:Nat,r.1=n∧r.2.1=c∧n≤l.length∧r.2.2.length=l.length∧r.2.2.take n=l.filter (zzq c):=by
 rw[zbq]
 have:=zgg (F:=fun s:Int×Int×Int×(List Asked)=>(zag s.1 s.2.1 s.2.2.1 s.2.2.2).run) l.length (fun i (t:Nat×List Asked)=>((t.1:Int),(i:Int),c,t.2)) (fun i t=>t.1 < i∧t.2.length=l.length∧t.2.take t.1=(l.take i).filter (zzq c)∧t.2.drop i=l.drop i)
  (fun i _ r=>∃ n:Nat,r.1=n∧r.2.1=c∧n≤l.length∧r.2.2.length=l.length∧r.2.2.take n=l.filter (zzq c)) ?_ ?_ (k+1) (k,l) (by omega) ⟨by omega,rfl,?_,rfl⟩
 ·exact this
 ·rintro ⟨n,W⟩ ⟨h1,h2,h3,h4⟩
  simp only at h1 h2 h3 h4
  refine ⟨((n:Int),c,W),?_,n,rfl,rfl,by omega,h2,by rw[h3,List.take_length]⟩
  simp only[zag];rw[Tr.rf (by simp;omega),Tr.rl]
 ·rintro i ⟨n,W⟩ hi ⟨h1,h2,h3,h4⟩
  simp only at h1 h2 h3 h4
  have hg:W.getD i default=l.getD i default:=by
   have e1:=zat (l:=W) (k:=i) (by omega) default
   have e2:=zat (l:=l) (k:=i) hi default
   rw[h4,e2] at e1
   exact (List.cons.inj e1).1.symm
  have hd:W.drop (i+1)=l.drop (i+1):=by
   have e1:=zat (l:=W) (k:=i) (by omega) default
   have e2:=zat (l:=l) (k:=i) hi default
   rw[h4,e2] at e1
   exact (List.cons.inj e1).2.symm
  simp only[zag]
  rw[yy4,yy4,hg,Tr.rt (by simp;omega),Tr.rg ⟨by omega,by rw[ze4];omega⟩,Tr.rb (zamv _ _)]
  cases hq:zzq c (l.getD i default) with
  | true =>
   refine .inl ⟨(n+1,W.set n (l.getD i default)),by rw[Tr.rt (by rfl),Tr.rg ⟨by omega,by rw[ze4];omega⟩,Tr.rl,zw (by omega),zw (by omega)],⟨by simp only[];omega,by simp only[List.length_set];exact h2,?_,?_⟩,fun r hr=>hr⟩
   ·simp only[]
    rw[zkc (by rw[List.length_set];omega) default,List.take_set_of_le (by omega),h3,zkc hi default,List.filter_append,zqa (by rw[List.length_set];omega),List.getElem_set_self,List.filter_cons,hq]
    rfl
   ·simp only[]
    rw[List.drop_set_of_lt (by omega),hd]
  | false =>
   refine .inl ⟨(n,W),by rw[Tr.rf (by rfl),Tr.rl,zw (by omega)],⟨by simp only[];omega,h2,?_,hd⟩,fun r hr=>hr⟩
   simp only[]
   rw[h3,zkc hi default,List.filter_append,List.filter_cons,hq]
   simp
 ·simp only[]
  rw[zkc hk default,List.filter_append,List.filter_cons,hn,List.filter_eq_self.2 (fun a h=>List.all_eq_true.1 ha a h)]
  simp
theorem zaet {l:List Asked} {c:Int} (hl:l.length*88≤140737488351232):zch c l=some (c,l.filter (zzq c)):=by
 have hi:za2 c l=some (-1,c,l)∧l.all (zzq c)=true∨∃ k:Nat,za2 c l=some ((k:Int),c,l)∧k < l.length∧(l.take k).all (zzq c)=true∧zzq c (l.getD k default)=false:=by
  obtain ⟨r,h1,h2⟩:=zaes (c:=c) hl
  rw[za2,zcg]
  cases r with
  | inl y =>
   obtain ⟨k,rfl,h3,h4,h5⟩:=h2
   exact .inr ⟨k,by rw[Tr.ri h1,Tr.rl],h3,h4,h5⟩
  | inr y =>
   obtain ⟨rfl,h3⟩:=h2
   exact .inl ⟨by rw[Tr.rj h1,Tr.rl],h3⟩
 rw[zch,zct]
 rcases hi with ⟨h1,h2⟩ | ⟨k,h1,h2,h3,h4⟩
 ·rw[Tr.rb h1,Tr.rt (by rfl),Tr.rl,List.filter_eq_self.2 (fun a h=>List.all_eq_true.1 h2 a h)]
 ·obtain ⟨r,k1,n,k2,k3,k4,k5,k6⟩:=zaa5 hl h2 h3 h4
  have hcl:z7a r.2.2 r.1=some (r.2.2.take n++List.replicate (r.2.2.length - n) default):=by
   unfold z7a
   rw[k2,if_pos (by omega),yy4]
  have hlt:(r.2.2.take n).length=n:=by rw[List.length_take];omega
  rw[Tr.rb h1,Tr.rf (by simp),zw (by omega),Tr.rb k1,Tr.rb hcl,k2,Tr.rg ⟨by omega,by rw[ze4,yy6,hlt];omega⟩,Tr.rl,k3,yy4,List.drop_zero,Nat.sub_zero,List.take_left' hlt,k6]
theorem z6p {p:za} (hf:FitPr 140737488351232 p) {c:Int}:zcq p c=some (zrl p c):=by
 rw[zcq,zj6,Tr.rb (zic hf)]
 unfold zrl
 rw[Tr.rg (by
  intro h0
  simp only[Bool.or_eq_false_iff,yy8] at h0
  exact ⟨by omega,trivial⟩)]
 by_cases h:z8 p=true∧(0≤c∧c < 2)∧p.Links.On.get c=true
 ·obtain ⟨h1,h2,h3⟩:=h
  rw[if_pos ⟨h1,h2,h3⟩,Tr.rf (by rw[h1,h3];simp;omega),Tr.rg h2,Tr.rg h2,Tr.rg h2,Tr.rg h2,Tr.rg h2,Tr.rb (zyc hf.waits),Tr.rb (z4f hf.queue),Tr.rb (zaet hf.queue),Tr.rl]
  rfl
 ·rw[if_neg h,Tr.rt (by
   simp only[Bool.or_eq_true,decide_eq_true_eq,Bool.not_eq_true']
   cases h1:z8 p with
   | false=>exact .inl (.inl (.inl rfl))
   | true =>
    by_cases h2:0≤c∧c < 2
    ·exact .inr (Bool.eq_false_iff.2 (fun h3=>h ⟨h1,h2,h3⟩))
    ·exact .inl (by omega)),Tr.rl]
theorem z8w {α:Type} {P:α→Prop} {a:A2 α} (h0:P (a.get 0)) (h1:P (a.get 1)) (c:Int):P (a.get c):=by
 by_cases h:c=0
 ·rw[h];exact h0
 ·have:a.get c=a.get 1:=by unfold A2.get;rw[if_neg h];rfl
  rw[this];exact h1
theorem z12 {m:Int}:∀ {l:List Power} {p:Int},(∀ q,q∈l→p < q.V∧q.V≤5∧m≤q.N∧q.N≤1125899906842624)→l.Pairwise (fun a b=>a.V < b.V)→zx m p l=true
 | [],p,_,_=>rfl
 | q::l,p,h1,h2=>by
  have hq:=h1 q (List.mem_cons_self ..)
  rw[List.pairwise_cons] at h2
  simp only[zx,yy7,decide_eq_true_eq]
  exact ⟨⟨⟨⟨hq.1,hq.2.1⟩,hq.2.2.1⟩,hq.2.2.2⟩,z12 (fun x hx=>⟨h2.1 x hx,(h1 x (List.mem_cons_of_mem _ hx)).2⟩) h2.2⟩
theorem zaud {s:Stake} (hg:GoodS s):zx 1 (-1) (setS s)=true:=by
 refine z12 (fun q hq=>?_) (ztc _)
 obtain ⟨hv,_,hn,h1⟩:=zacs hg hq
 have:=(hg.at hv).1.1
 unfold inA at this
 omega
def GoodX (p:za):Prop:=GoodS p.Stake∧(0≤p.Height∧0≤p.Time∧p.Time≤1099511627776)∧zx 1 (-1) p.Set=true∧z8p p 0=true∧z8p p 1=true∧p.Queue.all (zt5 p)=true
theorem goodPr_iff {p:za}:z8 p=true↔GoodX p∧p.Height < 1099511627776:=by
 constructor
 ·intro h
  obtain ⟨a,⟨b1,b2,b3,b4⟩,c,d,e,f⟩:=zid h
  exact ⟨⟨a,⟨b1,b3,b4⟩,c,d,e,f⟩,b2⟩
 ·rintro ⟨⟨a,⟨b1,b3,b4⟩,c,d,e,f⟩,b2⟩
  unfold z8
  simp only[yy7,decide_eq_true_eq]
  exact ⟨⟨⟨⟨⟨a,b1,b2,b3,b4⟩,c⟩,d⟩,e⟩,f⟩
structure LkX (p:za) (c:Int):Prop where
 on:¬ (p.Links.On.get c=true∧p.Links.Gone.get c=true)
 b0:0≤p.Links.Base.get c
 b1:p.Links.Base.get c≤p.Height
 told:zx 1 (-1) (p.Links.Told.get c)=true
 line:zd1 (zhn p.Links c)
 done:zam (-1) (p.Links.Done.get c)=true
theorem okLk_iff {p:za} {c:Int}:z8p p c=true↔LkX p c:=by
 unfold z8p
 simp only[yy7,decide_eq_true_eq]
 constructor
 ·rintro ⟨⟨⟨⟨⟨h1,h2⟩,h3⟩,h4⟩,h5⟩,h6⟩
  exact ⟨fun ⟨x,y⟩=>(by rw[x,y] at h1;cases h1),h2,h3,h4,h5,h6⟩
 ·rintro ⟨h1,h2,h3,h4,h5,h6⟩
  refine ⟨⟨⟨⟨⟨?_,h2⟩,h3⟩,h4⟩,h5⟩,h6⟩
  cases x:p.Links.On.get c
  ·rfl
  ·cases y:p.Links.Gone.get c
   ·rfl
   ·exact absurd ⟨x,y⟩ h1
theorem GoodX.lk {p:za} (h:GoodX p) {c:Int} (hc:0≤c∧c < 2):LkX p c:=by
 rcases (show c=0∨c=1 by omega) with rfl | rfl
 ·exact okLk_iff.1 h.2.2.2.1
 ·exact okLk_iff.1 h.2.2.2.2.1
theorem ask_iff {p:za} {a:Asked}:zt5 p a=true↔(0≤a.C∧a.C < 2)∧p.Links.On.get a.C=true∧zcz a.P=0∧a.P.Kind≠1:=by
 unfold zt5
 simp only[yy7,decide_eq_true_eq,beq_iff_eq,Bool.not_eq_true',beq_eq_false_iff_ne]
 constructor
 ·rintro ⟨⟨⟨⟨c0,c1⟩,c2⟩,c3⟩,c4⟩;exact ⟨⟨c0,c1⟩,c2,c3,c4⟩
 ·rintro ⟨⟨c0,c1⟩,c2,c3,c4⟩;exact ⟨⟨⟨⟨c0,c1⟩,c2⟩,c3⟩,c4⟩
theorem GoodX.ask {p:za} (h:GoodX p) {a:Asked} (ha:a∈p.Queue):(0≤a.C∧a.C < 2)∧p.Links.On.get a.C=true∧zcz a.P=0∧a.P.Kind≠1:=ask_iff.1 (List.all_eq_true.1 h.2.2.2.2.2 a ha)
theorem fitX {p:za} (h:GoodX p) {R:Nat} (hR:100000≤R) (hq:p.Queue.length*88≤R):FitPr R p:=by
 have l0:=h.lk (c:=0) (by omega)
 have l1:=h.lk (c:=1) (by omega)
 have lp:∀ {l:List Power},zx 1 (-1) l=true→l.length*16≤R:=fun hl=>by have:=zik hl (by omega);omega
 have ld:∀ {l:List Int},zam (-1) l=true→l.length*8≤R:=fun hl=>by have:=zz2 hl;omega
 have lS:∀ {c:Int},LkX p c→(p.Links.Said.get c).length≤400∧(p.Links.Due.get c).length≤400:=by
  intro c l
  have e1:(p.Links.Said.get c).length=(p.Links.Due.get c).length:=l.line.1
  have e2:(p.Links.Said.get c).length≤400:=l.line.2.1
  omega
 have s0:=lS l0
 have s1:=lS l1
 have hw:p.Stake.Waits.length≤60:=h.1.2.1.2.2
 have t0:=lp l0.told;have t1:=lp l1.told;have d0:=ld l0.done;have d1:=ld l1.done
 have hset:=lp h.2.2.1
 have hask:=fun a ha=>z11 (h.ask (a:=a) ha).2.2.1
 have hw':p.Stake.Waits.length*64≤R:=by omega
 have a0:(p.Links.Said.get 0).length*16≤R:=by omega
 have a1:(p.Links.Said.get 1).length*16≤R:=by omega
 have b0:(p.Links.Due.get 0).length*8≤R:=by omega
 have b1:(p.Links.Due.get 1).length*8≤R:=by omega
 have hps:∀ a,a∈p.Queue→a.P.Set.length*16≤R∧a.P.Done.length*8≤R:=fun a ha=>by have:=hask a ha;omega
 exact ⟨hw',hset,fun c=>z8w (P:=fun l:List Power=>l.length*16≤R) (a:=p.Links.Told) t0 t1 c,fun c=>z8w (P:=fun l:List Int=>l.length*8≤R) (a:=p.Links.Done) d0 d1 c,
  fun c=>z8w (P:=fun l:List ByteArray=>l.length*16≤R) (a:=p.Links.Said) a0 a1 c,fun c=>z8w (P:=fun l:List Int=>l.length*8≤R) (a:=p.Links.Due) b0 b1 c,hq,hps⟩
theorem zaeu {l:zim} {s:ByteArray} {u:Int} (h:zd1 l) (hu:0≤u):zd1 (z53 l s u).1:=by
 unfold z53
 rw[if_neg (by rintro (k | k);exact k h;omega)]
 split
 ·exact h
 ·split
  ·exact h
  ·rename_i h4
   obtain ⟨g1,g2,g3,g4,g5⟩:=h
   refine ⟨by simp[g1],by simp only[yy6,yy5];omega,g3,by simp only[yy6,yy5];omega,?_⟩
   simp only[List.any_append,g5,Bool.false_or,List.any_cons,List.any_nil,Bool.or_false,yy8]
   omega
theorem zz3 {p:za} (hg:z8 p=true) (now:Int):∃ S D M,(zdg p now).1=upP (zny p now) S D M∧GoodS S∧(∀ c:Int,zam (-1) (D.get c)=true)∧(zdg p now).2.2.length≤p.Queue.length∧∀ b,b∈(zdg p now).2.2→b∈p.Queue:=by
 obtain ⟨⟨S,D,M,e,hS,d0,d1⟩,hq2,hq3,hq4⟩:=zqc (now:=now) hg
 exact ⟨S,D,M,e,hS,z8w (P:=fun l=>zam (-1) l=true) d0 d1,hq2,hq4⟩
theorem z8x {p:za} (hg:z8 p=true) {now:Int} (hn:p.Time≤now∧now≤1099511627776):GoodX (zml p now):=by
 obtain ⟨S,D,M,e,hS,hd,hl,hm⟩:=zz3 hg now
 have hx:=(goodPr_iff.1 hg).1
 have hp:=zacr hS now
 have hn0:=hx.2.1
 unfold zml
 rw[e]
 refine ⟨hp,⟨by show 0≤p.Height+1;omega,by show 0≤now;omega,hn.2⟩,zaud hp,okLk_iff.2 ?_,okLk_iff.2 ?_,List.all_eq_true.2 fun b hb=>?_⟩
 ·obtain ⟨a1,a2,a3,a4,a5,a6⟩:=hx.lk (c:=0) (by omega)
  exact ⟨a1,a2,by show p.Links.Base.get 0≤p.Height+1;omega,a4,a5,hd 0⟩
 ·obtain ⟨a1,a2,a3,a4,a5,a6⟩:=hx.lk (c:=1) (by omega)
  exact ⟨a1,a2,by show p.Links.Base.get 1≤p.Height+1;omega,a4,a5,hd 1⟩
 ·exact ask_iff.2 (hx.ask (hm b hb))
theorem zxl (p:za) (c now:Int):(zd2 p c now).Height=p.Height∧(zd2 p c now).Time=p.Time∧(zd2 p c now).Stake=p.Stake∧(zd2 p c now).Set=p.Set∧(zd2 p c now).Meter=p.Meter∧(zd2 p c now).Queue=p.Queue ∧
  (zd2 p c now).Links.On=p.Links.On∧(zd2 p c now).Links.Gone=p.Links.Gone∧(zd2 p c now).Links.Base=p.Links.Base∧(zd2 p c now).Links.SHeight=p.Links.SHeight∧(zd2 p c now).Links.STime=p.Links.STime∧(zd2 p c now).Links.SSaid=p.Links.SSaid∧(zd2 p c now).Links.SGot=p.Links.SGot:=by
 unfold zd2
 repeat' split
 all_goals exact ⟨rfl,rfl,rfl,rfl,rfl,rfl,rfl,rfl,rfl,rfl,rfl,rfl,rfl⟩
theorem z4g {p:za} {c j now:Int} (hc:0≤c∧c < 2) (hj:0≤j∧j < 2) (h:j≠c):(zd2 p c now).Links.Told.get j=p.Links.Told.get j∧(zd2 p c now).Links.Fresh.get j=p.Links.Fresh.get j∧(zd2 p c now).Links.Done.get j=p.Links.Done.get j∧zhn (zd2 p c now).Links j=zhn p.Links j:=by
 unfold zd2
 repeat' split
 ·exact ⟨rfl,rfl,rfl,rfl⟩
 ·exact ⟨rfl,rfl,rfl,rfl⟩
 ·exact ⟨rfl,rfl,rfl,rfl⟩
 ·unfold zalc zhn
  simp only[zak _ _ hc hj,if_neg h]
  exact ⟨trivial,trivial,trivial,trivial⟩
theorem zaue {p:za} {c:Int} (hs:zx 1 (-1) p.Set=true):zx 0 (-1) (dOf p c)=true:=by
  have hb:∀ v:Nat,0≤fP p.Set v∧fP p.Set v≤1125899906842624:=by
    intro v
    unfold fP
    have hm:=zj8 (by omega) hs (by omega)
    revert hm
    generalize p.Set=l
    intro hm
    induction l with
    | nil=>simp[zcu]
    | cons q l ih =>
      simp only[zcu]
      split
      · have:=hm q (List.mem_cons_self ..);omega
      · exact ih (fun q hq=>hm q (List.mem_cons_of_mem _ hq))
  unfold dOf
  generalize fP p.Set=g at hb
  generalize fP (p.Links.Told.get c)=f
  have hm:∀ q,q∈zoo f g→∃ v:Nat,v < 6∧q=⟨v,g v⟩:=by
    intro q hq
    rw[zxb] at hq
    simp only[List.mem_append,List.not_mem_nil,or_false] at hq
    have key:∀ v:Nat,v < 6→q∈zzo (v:Int) (g v) (f v)→∃ v:Nat,v < 6∧q=⟨v,g v⟩:=by
      intro v hv h
      unfold zzo at h
      split at h
      · exact ⟨v,hv,List.mem_singleton.1 h⟩
      · cases h
    rcases hq with h | h | h | h | h | h
    · exact key 0 (by omega) h
    · exact key 1 (by omega) h
    · exact key 2 (by omega) h
    · exact key 3 (by omega) h
    · exact key 4 (by omega) h
    · exact key 5 (by omega) h
  refine z12 (fun q hq=>?_) ?_
  · obtain ⟨v,hv,rfl⟩:=hm q hq
    have:=hb v
    refine ⟨by show (-1:Int) < (v:Int);omega,by show (v:Int)≤5;omega,this.1,this.2⟩
  · rw[zxb]
    have one:∀ (v:Int) (x y:Int),(zzo v x y).Pairwise (fun a b=>a.V < b.V):=by
      intro v x y;unfold zzo;split
      · exact List.pairwise_singleton ..
      · exact .nil
    have mem:∀ {v x y:Int} {q:Power},q∈zzo v x y→q.V=v:=by
      intro v x y q h;unfold zzo at h;split at h
      · rw[List.mem_singleton.1 h]
      · cases h
    refine List.pairwise_append.2 ⟨one _ _ _,List.pairwise_append.2 ⟨one _ _ _,List.pairwise_append.2 ⟨one _ _ _,List.pairwise_append.2 ⟨one _ _ _,List.pairwise_append.2 ⟨one _ _ _,List.pairwise_append.2 ⟨one _ _ _,.nil,?_⟩,?_⟩,?_⟩,?_⟩,?_⟩,?_⟩
    all_goals
      intro a ha b hb
      have k:=mem ha
      first
      | (exfalso;cases hb;done)
      | (simp only[List.mem_append,List.not_mem_nil,or_false] at hb
         first
         | (rcases hb with h | h | h | h | h<;>have:=mem h<;>omega)
         | (rcases hb with h | h | h | h<;>have:=mem h<;>omega)
         | (rcases hb with h | h | h<;>have:=mem h<;>omega)
         | (rcases hb with h | h<;>have:=mem h<;>omega)
         | (have:=mem hb;omega))
theorem zah9 {p:za} {c:Int} (hs:zx 1 (-1) p.Set=true) (hd:zam (-1) (p.Links.Done.get c)=true) (hH:1≤p.Height∧p.Height≤1099511627776):zcz (pkOf p c)=0:=by
 unfold zcz pkOf
 simp only[]
 rw[if_neg (by omega),if_neg (by omega),if_neg (by omega),zaue hs,hd]
 rfl
theorem zale {p:za} {c now:Int} (h:GoodX p) (hc:0≤c∧c < 2) (hH:1≤p.Height∧p.Height≤1099511627776) (hn:0≤now) :
  (zd2 p c now=p∧(zy7 p c∨p.Links.Closed.get c=true∨400≤(p.Links.Said.get c).length)) ∨
  (¬ zy7 p c∧p.Links.Closed.get c=false∧(p.Links.Said.get c).length < 400∧(zd2 p c now).Links={ p.Links with Told:=p.Links.Told.set c p.Set,Fresh:=p.Links.Fresh.set c false,Done:=p.Links.Done.set c [],Said:=p.Links.Said.set c (p.Links.Said.get c++[txt (zn0 (pkOf p c))]),Due:=p.Links.Due.set c (p.Links.Due.get c++[now+40]) }):=by
 have lk:=h.lk hc
 have hg:=zah9 (c:=c) h.2.2.1 lk.done hH
 unfold zd2
 by_cases hq:zy7 p c
 ·rw[if_pos hq];exact .inl ⟨rfl,.inl hq⟩
 ·rw[if_neg hq,zk6 hg,if_neg (by simp)]
  have hu:¬ (¬ zd1 (zhn p.Links c)∨now+40 < 0):=by rintro (k | k);exact k lk.line;omega
  cases hcl:p.Links.Closed.get c with
  | true =>
   have:zn4 p c now=(zhn p.Links c,11):=by unfold zn4 z53;rw[if_neg hu,if_pos hcl]
   rw[this,if_pos (by simp)];exact .inl ⟨rfl,.inr (.inl rfl)⟩
  | false =>
   by_cases h4:400≤(p.Links.Said.get c).length
   ·have:zn4 p c now=(zhn p.Links c,6):=by unfold zn4 z53;rw[if_neg hu,if_neg (by simp[hcl]),if_pos h4]
    rw[this,if_pos (by simp)];exact .inl ⟨rfl,.inr (.inr h4)⟩
   ·have e:zn4 p c now=(⟨p.Links.Said.get c++[txt (zn0 (pkOf p c))],p.Links.Due.get c++[now+40],p.Links.Got.get c,p.Links.Closed.get c⟩,0):=by
     unfold zn4 z53;rw[if_neg hu,if_neg (by simp[hcl]),if_neg h4,zk6 hg]
    rw[if_neg (by rw[e];simp)]
    refine .inr ⟨hq,rfl,by omega,?_⟩
    unfold zalc
    rw[e]
    simp only[znx _ hc]
theorem z13 {p:za} {c now:Int} (h:GoodX p) (hc:0≤c∧c < 2) (hn:0≤now):GoodX (zd2 p c now):=by
 unfold zd2
 repeat' split
 ·exact h
 ·exact h
 ·exact h
 ·have hlk:∀ j:Int,0≤j∧j < 2→LkX (zalc p c now) j:=by
   intro j hj
   obtain ⟨a1,a2,a3,a4,a5,a6⟩:=h.lk hj
   by_cases e:j=c
   ·subst e
    refine ⟨a1,a2,a3,?_,?_,?_⟩
    ·show zx 1 (-1) ((p.Links.Told.set j p.Set).get j)=true
     rw[zak _ _ hj hj,if_pos rfl];exact h.2.2.1
    ·show zd1 ⟨(p.Links.Said.set j (zn4 p j now).1.Said).get j,(p.Links.Due.set j (zn4 p j now).1.Due).get j,(p.Links.Got.set j (zn4 p j now).1.Got).get j,(p.Links.Closed.set j (zn4 p j now).1.Closed).get j⟩
     simp only[zak _ _ hj hj,if_pos]
     refine zaeu a5 ?_
     have:0≤now:=hn
     omega
    ·show zam (-1) ((p.Links.Done.set j []).get j)=true
     rw[zak _ _ hj hj,if_pos rfl];rfl
   ·refine ⟨a1,a2,a3,?_,?_,?_⟩
    ·show zx 1 (-1) ((p.Links.Told.set c p.Set).get j)=true
     rw[zak _ _ hc hj,if_neg e];exact a4
    ·show zd1 ⟨(p.Links.Said.set c (zn4 p c now).1.Said).get j,(p.Links.Due.set c (zn4 p c now).1.Due).get j,(p.Links.Got.set c (zn4 p c now).1.Got).get j,(p.Links.Closed.set c (zn4 p c now).1.Closed).get j⟩
     simp only[zak _ _ hc hj,if_neg e]
     exact a5
    ·show zam (-1) ((p.Links.Done.set c []).get j)=true
     rw[zak _ _ hc hj,if_neg e];exact a6
  exact ⟨h.1,h.2.1,h.2.2.1,okLk_iff.2 (hlk 0 (by omega)),okLk_iff.2 (hlk 1 (by omega)),h.2.2.2.2.2⟩
theorem zalf {p:za} (hg:z8 p=true) {now:Int} (hn:p.Time≤now∧now≤1099511627776):GoodX (zgs p now).1:=by
 unfold zgs
 rw[if_pos ⟨hg,hn⟩]
 have h0:=(goodPr_iff.1 hg).1.2.1
 exact z13 (z13 (z8x hg hn) (by omega) (by omega)) (by omega) (by omega)
theorem z8y {p:za} (hg:z8 p=true) {c:Int} (hc:0≤c∧c < 2):z8 (zrk p c)=true:=by
 obtain ⟨hx,hH⟩:=goodPr_iff.1 hg
 have hlk:∀ j:Int,0≤j∧j < 2→LkX (zrk p c) j:=by
  intro j hj
  obtain ⟨a1,a2,a3,a4,a5,a6⟩:=hx.lk hj
  refine ⟨?_,a2,a3,a4,a5,?_⟩
  ·show ¬ ((p.Links.On.set c false).get j=true∧(p.Links.Gone.set c true).get j=true)
   rw[zak _ _ hc hj,zak _ _ hc hj]
   by_cases e:j=c
   ·rw[if_pos e];simp
   ·rw[if_neg e,if_neg e];exact a1
  ·show zam (-1) ((p.Links.Done.set c []).get j)=true
   rw[zak _ _ hc hj]
   by_cases e:j=c
   ·rw[if_pos e];rfl
   ·rw[if_neg e];exact a6
 refine goodPr_iff.2 ⟨⟨zy1 hx.1,hx.2.1,hx.2.2.1,okLk_iff.2 (hlk 0 (by omega)),okLk_iff.2 (hlk 1 (by omega)),List.all_eq_true.2 fun b hb=>ask_iff.2 ?_⟩,hH⟩
 obtain ⟨h1,h2⟩:=List.mem_filter.1 hb
 obtain ⟨q1,q2,q3,q4⟩:=hx.ask h1
 refine ⟨q1,?_,q3,q4⟩
 show (p.Links.On.set c false).get b.C=true
 rw[zak _ _ hc q1,if_neg (by simpa[zzq] using h2)]
 exact q2
theorem zaa6 {p:za} {now:Int} (h:z8 p=true∧p.Time≤now∧now≤1099511627776):(zgs p now).2.2=0:=by unfold zgs;rw[if_pos h]
theorem zor {p:za} {now:Int} (h:z8 p=true∧p.Time≤now∧now≤1099511627776) :
  (zgs p now).1.Height=p.Height+1∧(zgs p now).1.Time=now∧(zgs p now).1.Stake=(z3a (zdg p now).1.Stake now).1∧(zgs p now).1.Set=setS (z3a (zdg p now).1.Stake now).1∧(zgs p now).1.Queue=(zdg p now).2.2 ∧
  (zgs p now).1.Links.On=p.Links.On∧(zgs p now).1.Links.Gone=p.Links.Gone∧(zgs p now).1.Links.Base=p.Links.Base:=by
 unfold zgs
 rw[if_pos h]
 obtain ⟨S,D,M,e,-⟩:=zz3 h.1 now
 obtain ⟨a1,a2,a3,a4,a5,a6,a7,a8,a9,-⟩:=zxl (zd2 (zml p now) 0 now) 1 now
 obtain ⟨b1,b2,b3,b4,b5,b6,b7,b8,b9,-⟩:=zxl (zml p now) 0 now
 simp only[a1,a2,a3,a4,a6,a7,a8,a9,b1,b2,b3,b4,b6,b7,b8,b9]
 refine ⟨?_,?_,rfl,rfl,rfl,?_,?_,?_⟩
 all_goals
  unfold zml
  rw[e]
  rfl
theorem zalg {s:Stake} (hg:GoodS s) (t:Int):(z3a s t).1.Validators=s.Validators:=by rw[z6k hg]
def zauf (on fresh:Bool) (told:List Power) (D:List Int) (l:zim) (H now:Int) (set told':List Power) (D':List Int) (fresh':Bool) (l':zim):Prop :=
 (told'=told∧D'=D∧fresh'=fresh∧l'=l∧(on=false∨(zoo (fP told) (fP set)=[]∧D=[]∧fresh=false)∨l.Closed=true∨400≤l.Said.length)) ∨
 (told'=set∧D'=[]∧fresh'=false∧on=true∧l.Closed=false∧l.Said.length < 400∧¬ (zoo (fP told) (fP set)=[]∧D=[]∧fresh=false)∧zcz ⟨1,H,0,0,zoo (fP told) (fP set),D⟩=0 ∧
  l'=⟨l.Said++[txt (zn0 ⟨1,H,0,0,zoo (fP told) (fP set),D⟩)],l.Due++[now+40],l.Got,l.Closed⟩)
theorem z8z {p:za} {c now:Int} (h:GoodX p) (hc:0≤c∧c < 2) (hH:1≤p.Height∧p.Height≤1099511627776) (hn:0≤now) :
  zauf (p.Links.On.get c) (p.Links.Fresh.get c) (p.Links.Told.get c) (p.Links.Done.get c) (zhn p.Links c) p.Height now p.Set ((zd2 p c now).Links.Told.get c) ((zd2 p c now).Links.Done.get c) ((zd2 p c now).Links.Fresh.get c) (zhn (zd2 p c now).Links c):=by
 rcases zale h hc hH hn with ⟨e,h1⟩ | ⟨h1,h2,h3,e⟩
 ·rw[e]
  refine .inl ⟨rfl,rfl,rfl,rfl,?_⟩
  rcases h1 with (h1 | h1) | h1 | h1
  ·exact .inl h1
  ·exact .inr (.inl h1)
  ·exact .inr (.inr (.inl h1))
  ·exact .inr (.inr (.inr h1))
 ·rw[e]
  have on:p.Links.On.get c=true:=by
   cases o:p.Links.On.get c with
   | true=>rfl
   | false=>exact absurd (.inl o) h1
  refine .inr ⟨?_,?_,?_,on,h2,h3,fun k=>h1 (.inr k),zah9 h.2.2.1 (h.lk hc).done hH,?_⟩
  ·simp only[zak _ _ hc hc,if_pos]
  ·simp only[zak _ _ hc hc,if_pos]
  ·simp only[zak _ _ hc hc,if_pos]
  ·unfold zhn
   simp only[zak _ _ hc hc,if_pos]
   rfl
theorem zaia {p:za} (hg:z8 p=true) (now:Int):(zml p now).Height=p.Height+1∧(zml p now).Links.On=p.Links.On∧(zml p now).Links.Fresh=p.Links.Fresh∧(zml p now).Links.Told=p.Links.Told∧(∀ c,zhn (zml p now).Links c=zhn p.Links c):=by
 obtain ⟨S,D,M,e,-⟩:=zz3 hg now
 unfold zml
 rw[e]
 exact ⟨rfl,rfl,rfl,rfl,fun _=>rfl⟩
theorem zac8 {p:za} {now:Int} (h:z8 p=true∧p.Time≤now∧now≤1099511627776) {c:Int} (hc:0≤c∧c < 2) :
  ∃ D,D=(zml p now).Links.Done.get c∧zauf (p.Links.On.get c) (p.Links.Fresh.get c) (p.Links.Told.get c) D (zhn p.Links c) (zgs p now).1.Height now (zgs p now).1.Set ((zgs p now).1.Links.Told.get c) ((zgs p now).1.Links.Done.get c) ((zgs p now).1.Links.Fresh.get c) (zhn (zgs p now).1.Links c):=by
 obtain ⟨hx,hH⟩:=goodPr_iff.1 h.1
 have hn:0≤now:=by have:=hx.2.1.2.1;omega
 have h0:=hx.2.1.1
 have g0:=z8x h.1 h.2
 have g1:=z13 (c:=0) g0 (by omega) hn
 obtain ⟨p1,p2,p3,p4,p5⟩:=zaia h.1 now
 obtain ⟨a1,a2,a3,a4,a5,a6,a7,a8,a9,-⟩:=zxl (zd2 (zml p now) 0 now) 1 now
 obtain ⟨b1,b2,b3,b4,b5,b6,b7,b8,b9,-⟩:=zxl (zml p now) 0 now
 refine ⟨_,rfl,?_⟩
 unfold zgs
 rw[if_pos h]
 simp only[]
 rw[a1,a4,b1,b4,← p2,← p3,← p4,← p5 c]
 rcases (show c=0∨c=1 by omega) with rfl | rfl
 ·obtain ⟨t1,t2,t3,t4⟩:=z4g (p:=zd2 (zml p now) 0 now) (c:=1) (j:=0) (now:=now) (by omega) (by omega) (by omega)
  rw[t1,t2,t3,t4]
  exact z8z g0 hc (by omega) hn
 ·obtain ⟨t1,t2,t3,t4⟩:=z4g (p:=zml p now) (c:=0) (j:=1) (now:=now) (by omega) (by omega) (by omega)
  have:=z8z (c:=1) (now:=now) g1 hc (by rw[b1];omega) hn
  rw[b7,t1,t2,t3,t4,b1,b4] at this
  exact this
theorem z80 (s:Stake):zey (fP (setS s))=setS s:=by
 have nn:∀ v,0≤z60 (cutF (nvF s)) v∨True:=fun _=>.inr trivial
 show zey (fP (zey (z60 (nvF s))))=zey (z60 (nvF s))
 have key:∀ f:Nat→Int,zey (fP (zey f))=zey f:=by
  intro f
  have e:zey f=zey (fun v=>if 0 < f v then f v else 0):=by
   rw[ztm,ztm]
   have:∀ (w:Int) (n:Int),ztk w n=ztk w (if 0 < n then n else 0):=by
    intro w n
    unfold ztk
    by_cases h:0 < n
    ·rw[if_pos h,if_pos h,if_pos h]
    ·rw[if_neg h,if_neg h];rfl
   rw[this _ (f 0),this _ (f 1),this _ (f 2),this _ (f 3),this _ (f 4),this _ (f 5)]
  rw[e]
  exact zq9 fun v hv=>zaah (fun v=>by show 0≤if 0 < f v then f v else 0;split<;>omega) hv
 exact key _
theorem zalh {told set:List Power} (hs:zey (fP set)=set):zon told (zoo (fP told) (fP set))=set:=by
 unfold zon
 have:∀ v:Nat,v < 6→zxa (zoo (fP told) (fP set)) v (zcu told v)=fP set v:=fun v hv=>zad2 (f:=fP told) (g:=fP set) hv
 rw[zq9 this,hs]
theorem zms {C:zcv} {i j:Int} (hi:0≤i∧i < 2) (hj:0≤j∧j < 2) (c:zc):zb (zla C i c) j=if j=i then c else zb C j:=by
 unfold zb zla
 simp only[zak _ _ hi hj]
 by_cases e:j=i
 ·simp only[if_pos e]
 ·simp only[if_neg e]
theorem zec {C:zcv} {i:Int} (hi:0≤i∧i < 2) (c:zc):zb (zla C i c) i=c:=by rw[zms hi hi,if_pos rfl]
theorem zc2 {C:zcv} {i j:Int} (hi:0≤i∧i < 2) (hj:0≤j∧j < 2) (h:j≠i) (c:zc):zb (zla C i c) j=zb C j:=by rw[zms hi hj,if_neg h]
theorem z81 {C:zcv} {i:Int} (hi:0≤i∧i < 2):zla C i (zb C i)=C:=by
 unfold zb zla
 simp only[znx _ hi]
def zy8 (L:Links) (i:Int) (l:zim):Links:={ L with Said:=L.Said.set i l.Said,Due:=L.Due.set i l.Due,Got:=L.Got.set i l.Got,Closed:=L.Closed.set i l.Closed }
def zyj (L:Links) (i:Int) (h:Head):Links:={ L with SHeight:=L.SHeight.set i h.Height,STime:=L.STime.set i h.Time,SSaid:=L.SSaid.set i h.Said,SGot:=L.SGot.set i h.Got }
theorem ztu {L:Links} {i j:Int} (hi:0≤i∧i < 2) (hj:0≤j∧j < 2) (l:zim):ze (zy8 L i l) j=if j=i then { ze L j with Out:=l } else ze L j:=by
 unfold ze zy8
 simp only[zak _ _ hi hj]
 by_cases e:j=i
 ·simp only[if_pos e]
 ·simp only[if_neg e]
theorem zaa7 {L:Links} {i j:Int} (hi:0≤i∧i < 2) (hj:0≤j∧j < 2) (h:Head):ze (zyj L i h) j=if j=i then { ze L j with Seen:=h } else ze L j:=by
 unfold ze zyj
 simp only[zak _ _ hi hj]
 by_cases e:j=i
 ·simp only[if_pos e]
 ·simp only[if_neg e]
theorem zvw (L:Links) (i:Int):zhn L i=(ze L i).Out:=rfl
def noW (w:Wld) (e:Int):Wld×Reply:=(w,⟨e,0⟩)
def zaib (h:ztz) (p:za) (C:zcv):ztz :=
 { h with PHeight:=⟨p.Height,p.Height⟩,PTime:=⟨p.Time,p.Time⟩,PSaid:=⟨((p.Links.Said.x0.length:Nat):Int),((p.Links.Said.x1.length:Nat):Int)⟩,PGot:=C.Got }
def zaug (h:ztz) (i:Int) (c:zc) (got:Int):ztz :=
 { h with CHeight:=h.CHeight.set i c.Height,CTime:=h.CTime.set i c.Time,CSaid:=h.CSaid.set i ((c.Out.Said.length:Nat):Int),CGot:=h.CGot.set i got }
def zamw (h:ztz) (i:Int):ztz :=
 ⟨h.PHeight.set i 0,h.PTime.set i 0,h.PSaid.set i 0,h.PGot.set i 0,h.CHeight.set i 0,h.CTime.set i 0,h.CSaid.set i 0,h.CGot.set i 0⟩
def zali (h:ztz) (i:Int):Head:=⟨h.PHeight.get i,h.PTime.get i,h.PSaid.get i,h.PGot.get i⟩
def zapx (h:ztz) (i:Int):Head:=⟨h.CHeight.get i,h.CTime.get i,h.CSaid.get i,h.CGot.get i⟩
def zjh (w:Wld):Wld×Reply :=
 if (zgs w.p w.clock).2.2≠0 then noW w (zgs w.p w.clock).2.2
 else ({ w with p:=(zgs w.p w.clock).1,heads:=zaib w.heads (zgs w.p w.clock).1 w.consumers },⟨0,(((zgs w.p w.clock).2.1.length:Nat):Int)⟩)
def zza (w:Wld) (i:Int):Wld×Reply :=
 if (zdr w.p i).2≠0 then noW w (zdr w.p i).2
 else ({ w with p:=(zdr w.p i).1,consumers:=zla w.consumers i (zlz (zdr w.p i).1.Set (zdr w.p i).1.Height w.clock),heads:=zamw w.heads i },⟨0,(zdr w.p i).1.Height⟩)
def ztv (w:Wld) (i:Int):Wld×Reply :=
 if (zxh w.clock (zb w.consumers i)).2≠0 then noW w (zxh w.clock (zb w.consumers i)).2
 else ({ w with consumers:=zla w.consumers i (zxh w.clock (zb w.consumers i)).1,heads:=zaug w.heads i (zxh w.clock (zb w.consumers i)).1 (w.p.Links.Got.get i) },⟨0,0⟩)
def z4h (w:Wld) (i:Int) (back:Bool):Wld×Reply :=
 if back=true then ({ w with p:={ w.p with Links:=zyj w.p.Links i (zapx w.heads i) } },⟨0,0⟩)
 else ({ w with consumers:=zla w.consumers i { zb w.consumers i with Seen:=zali w.heads i } },⟨0,0⟩)
def zaic (n:Nat):Packet:=⟨3,1,0,i64.wrap (1+(n:Int)),[],[]⟩
def zaid (l:zim):ByteArray:=if l.Got < ((l.Said.length:Nat):Int) then l.Said.getD l.Got.toNat .empty else (⟨#[]⟩:ByteArray)
def zji (l:zim) (forged:Bool):ByteArray:=if forged=true then (zgh (zaic (zaid l).size)).1 else zaid l
def zdi (w:Wld) (i:Int) (back:Bool):zim:=if back=true then (zb w.consumers i).Out else (ze w.p.Links i).Out
def z6q (w:Wld) (i:Int) (back:Bool):Int:=if back=true then w.p.Links.SSaid.get i else w.consumers.SSaid.get i
def zlp (w:Wld) (d:Deed):zim×Int:=zmh (zdi w d.C d.Back) (i64.wrap ((zdi w d.C d.Back).Got+1)) (zji (zdi w d.C d.Back) d.Forged) (z6q w d.C d.Back) w.clock
def zos (w:Wld) (d:Deed):Wld×Reply :=
  if (zlp w d).2≠0 then noW w (zlp w d).2
  else if d.Back=true then
    (if (zl0 w.p d.C (zji (zdi w d.C d.Back) d.Forged).data.toList).2≠0 then noW w (zl0 w.p d.C (zji (zdi w d.C d.Back) d.Forged).data.toList).2
     else ({ w with p:=(zl0 w.p d.C (zji (zdi w d.C d.Back) d.Forged).data.toList).1,consumers:=zla w.consumers d.C { zb w.consumers d.C with Out:=(zlp w d).1 } },⟨0,(zlp w d).1.Got⟩))
  else (if (ztd (zb w.consumers d.C) (zji (zdi w d.C d.Back) d.Forged).data.toList).2≠0 then noW w (ztd (zb w.consumers d.C) (zji (zdi w d.C d.Back) d.Forged).data.toList).2
     else ({ w with p:={ w.p with Links:=zy8 w.p.Links d.C (zlp w d).1 },consumers:=zla w.consumers d.C (ztd (zb w.consumers d.C) (zji (zdi w d.C d.Back) d.Forged).data.toList).1 },⟨0,(zlp w d).1.Got⟩))
def z6r (w:Wld) (d:Deed):zim×Int:=if d.Back=true then zx8 (zb w.consumers d.C).Out d.N (w.consumers.STime.get d.C) (w.consumers.SGot.get d.C) else zx8 (ze w.p.Links d.C).Out d.N (w.p.Links.STime.get d.C) (w.p.Links.SGot.get d.C)
def ztg (w:Wld) (d:Deed):Wld×Reply :=
 if (z6r w d).2≠0 then noW w (z6r w d).2 else ({ w with p:=zrl w.p d.C,consumers:=zla w.consumers d.C (zvt (zb w.consumers d.C)) },⟨0,0⟩)
def putW (w:Wld) (i:Int) (r:zc×Int):Wld×Reply:=if r.2≠0 then noW w r.2 else ({ w with consumers:=zla w.consumers i r.1 },⟨0,0⟩)
def zot (w:Wld) (d:Deed):Wld×Reply :=
 if d.Kind < 4∨12 < d.Kind then noW w 3 else if d.C < 0∨2≤d.C then noW w 4 else if d.Kind≠4∧w.consumers.On.get d.C=false then noW w 4
 else if d.Kind=4 then zza w d.C else if d.Kind=7 then ztv w d.C else if d.Kind=8 then z4h w d.C d.Back else if d.Kind=9 then zos w d else if d.Kind=10 then ztg w d
 else if d.Kind=11 then putW w d.C (z1v (zb w.consumers d.C) d.V w.clock) else if d.Kind=12 then putW w d.C (zpl (zb w.consumers d.C) d.V d.N w.clock) else (w,⟨0,0⟩)
def zpm (w:Wld) (r:za×Int):Wld×Reply:=if r.2≠0 then noW w r.2 else ({ w with p:=r.1 },⟨0,0⟩)
def zac9 (p:za) (v:Int):za×Int:=({ p with Stake:=(za1 p.Stake v 1).1 },(za1 p.Stake v 1).2)
def zaev (w:Wld) (n:Int):Wld×Reply:=if n < 1∨1099511627736 - w.clock < n then noW w 2 else ({ w with clock:=w.clock+n },⟨0,w.clock+n⟩)
def actW (w:Wld) (d:Deed):Wld×Reply :=
 if d.Kind=1 then zpm w (zcr w.p d.D d.V d.N) else if d.Kind=2 then zpm w (zcl w.p d.D d.V d.N w.clock) else if d.Kind=3 then zpm w (zac9 w.p d.V) else if d.Kind=13 then zpm w (ztf w.p d.V d.N)
 else if d.Kind=5 then zaev w d.N else if d.Kind=6 then zjh w else zot w d
def zav (w:Wld):Wld:={ w with deeds:=w.deeds+1 }
def doW (w:Wld) (d:Deed):Wld×Reply:=if 600≤w.deeds then noW w 6 else actW (zav w) d
def newW:Wld:=⟨0,z8r,default,default,0⟩
def Pk1 (s:ByteArray):Prop:=∃ q,zcz q=0∧q.Kind=1∧s=txt (zn0 q)
def PkB (s:ByteArray):Prop:=∃ q,zcz q=0∧q.Kind≠1∧s=txt (zn0 q)
structure ConsW (w:Wld) (i:Int):Prop where
 good:zin (zb w.consumers i)=true
 height:(zb w.consumers i).Height≤w.deeds
 time:(zb w.consumers i).Time≤w.clock
 size:(((zb w.consumers i).Pending.length+(zb w.consumers i).Ripes.length:Nat):Int)≤w.deeds
 on:(zb w.consumers i).On=w.p.Links.On.get i
 gone:(zb w.consumers i).Gone=w.p.Links.Gone.get i
 told:∀ s,s∈(ze w.p.Links i).Out.Said→Pk1 s
 said:∀ s,s∈(zb w.consumers i).Out.Said→PkB s
 fresh:w.p.Links.On.get i=false→w.p.Links.Gone.get i=false→zb w.consumers i=default∧(ze w.p.Links i).Out.Said=[]
structure OkW (w:Wld):Prop where
 d0:0≤w.deeds
 d1:w.deeds≤600
 t0:0≤w.clock
 t1:w.clock≤1099511627736
 p:GoodX w.p
 ph:w.p.Height≤w.deeds
 pt:w.p.Time≤w.clock
 pq:((w.p.Queue.length:Nat):Int)≤w.deeds
 c:∀ i:Int,0≤i∧i < 2→ConsW w i
theorem OkW.pr {w:Wld} (h:OkW w):z8 w.p=true:=goodPr_iff.2 ⟨h.p,by have:=h.ph;have:=h.d1;omega⟩
theorem OkW.fit {w:Wld} (h:OkW w):FitPr 140737488351232 w.p:=fitX h.p (by omega) (by have:=h.pq;have:=h.d1;omega)
theorem zapz {c:zc} (h:zin c=true) {n:Nat} (hn:n≤1000000) (hs:c.Pending.length+c.Ripes.length≤n):FitC 140737488351232 c:=by
 obtain ⟨g1,g2,g3,g4,g5⟩:=zbt h
 have e1:=zik g3 (by omega)
 have e2:c.Out.Said.length=c.Out.Due.length:=g2.1
 have e3:c.Out.Said.length≤400:=g2.2.1
 exact ⟨by omega,by omega,by omega,by omega,by omega,fun p hp=>by have:=z11 (z1u g5 p hp).1;omega⟩
theorem ConsW.fit {w:Wld} {i:Int} (h:ConsW w i) (hd:w.deeds≤600):FitC 140737488351232 (zb w.consumers i) :=
 zapz h.good (n:=600) (by omega) (by have:=h.size;omega)
structure SameL (p q:za) (i:Int):Prop where
 on:p.Links.On.get i=q.Links.On.get i
 gone:p.Links.Gone.get i=q.Links.Gone.get i
 said:(ze p.Links i).Out.Said=(ze q.Links i).Out.Said
theorem SameL.refl (p:za) (i:Int):SameL p p i:=⟨rfl,rfl,rfl⟩
theorem SameL.of {p q:za} {i:Int} (h:ze p.Links i=ze q.Links i):SameL p q i:=⟨congrArg Link.On h,congrArg Link.Gone h,by rw[h]⟩
theorem ConsW.more {w w':Wld} {i:Int} (h:ConsW w i) (hc:zb w'.consumers i=zb w.consumers i) (hl:SameL w'.p w.p i) (hd:w.deeds≤w'.deeds) (ht:w.clock≤w'.clock):ConsW w' i:=by
 obtain ⟨e1,e2,e3⟩:=hl
 obtain ⟨a1,a2,a3,a4,a5,a6,a7,a8,a9⟩:=h
 refine ⟨by rw[hc];exact a1,by rw[hc];omega,by rw[hc];omega,by rw[hc];omega,by rw[hc,e1];exact a5,by rw[hc,e2];exact a6,by rw[e3];exact a7,by rw[hc];exact a8,?_⟩
 rw[e1,e2,hc,e3];exact a9
theorem zjj {w:Wld} (h:OkW w) (hd:w.deeds < 600):OkW (zav w) :=
 ⟨by have:=h.d0;show 0≤w.deeds+1;omega,by show w.deeds+1≤600;omega,h.t0,h.t1,h.p,by have:=h.ph;show w.p.Height≤w.deeds+1;omega,h.pt,by have:=h.pq;show ((w.p.Queue.length:Nat):Int)≤w.deeds+1;omega,
  fun i hi=>(h.c i hi).more rfl (.refl _ _) (by show w.deeds≤w.deeds+1;omega) (by exact Int.le_refl _)⟩
theorem zaa8:OkW newW:=by
 have g:GoodX z8r:=(goodPr_iff.1 z4d).1
 refine ⟨by decide,by decide,by decide,by decide,g,by decide,by decide,by decide,fun i hi=>?_⟩
 have hc:zb newW.consumers i=default:=by rcases (show i=0∨i=1 by omega) with rfl | rfl<;>rfl
 have hl:ze newW.p.Links i=default:=by rcases (show i=0∨i=1 by omega) with rfl | rfl<;>rfl
 have e1:newW.p.Links.On.get i=false:=congrArg Link.On hl
 have e2:newW.p.Links.Gone.get i=false:=congrArg Link.Gone hl
 refine ⟨by rw[hc];decide,by rw[hc];decide,by rw[hc];decide,by rw[hc];decide,by rw[hc,e1];rfl,by rw[hc,e2];rfl,(by rw[hl];intro s hs;cases hs),(by rw[hc];intro s hs;cases hs),fun _ _=>⟨hc,by rw[hl];rfl⟩⟩
theorem z6s {w:Wld} (h:OkW w) {p:za} (hp:GoodX p) (hH:p.Height=w.p.Height) (hT:p.Time=w.p.Time) (hQ:p.Queue.length=w.p.Queue.length) (hl:∀ i:Int,0≤i∧i < 2→SameL p w.p i):OkW { w with p:=p } :=
 ⟨h.d0,h.d1,h.t0,h.t1,hp,by rw[hH];exact h.ph,by rw[hT];exact h.pt,by rw[hQ];exact h.pq,fun i hi=>(h.c i hi).more rfl (hl i hi) (Int.le_refl _) (Int.le_refl _)⟩
theorem z14 {p:za} (h:GoodX p) {s:Stake} (hs:GoodS s):GoodX { p with Stake:=s }:=⟨hs,h.2.1,h.2.2.1,h.2.2.2.1,h.2.2.2.2.1,h.2.2.2.2.2⟩
theorem z15 {w:Wld} (h:OkW w) {s:Stake} (hs:GoodS s):OkW { w with p:={ w.p with Stake:=s } }:=z6s h (z14 h.p hs) rfl rfl rfl fun _ _=>⟨rfl,rfl,rfl⟩
theorem zxm {w:Wld} (h:OkW w) {r:za×Int} (hr:r.2=0→OkW { w with p:=r.1 }):OkW (zpm w r).1:=by
 unfold zpm
 by_cases e:r.2=0
 ·rw[if_neg (by simpa using e)];exact hr e
 ·rw[if_pos e];exact h
theorem z82 {w:Wld} (h:OkW w) (d v n:Int):OkW (zpm w (zcr w.p d v n)).1:=by
 refine zxm h fun h0=>?_
 unfold zcr at h0 ⊢
 rw[if_pos h.pr] at h0 ⊢
 by_cases e:(zaz w.p.Stake d v n).2=0
 ·rw[if_neg (by simpa using e)];exact z15 h (z6i e)
 ·rw[if_pos e] at h0;exact absurd h0 e
theorem zaa9 {p:za} (h:GoodX p):GoodX { p with Links:=z8s p.Links }:=by
 have hlk:∀ j:Int,0≤j∧j < 2→LkX { p with Links:=z8s p.Links } j:=by
  intro j hj
  obtain ⟨a1,a2,a3,a4,a5,a6⟩:=h.lk hj
  exact ⟨a1,a2,a3,a4,a5,a6⟩
 exact ⟨h.1,h.2.1,h.2.2.1,okLk_iff.2 (hlk 0 (by omega)),okLk_iff.2 (hlk 1 (by omega)),h.2.2.2.2.2⟩
theorem z3b {w:Wld} (h:OkW w) (d v k:Int):OkW (zpm w (zcl w.p d v k w.clock)).1:=by
 refine zxm h fun h0=>?_
 unfold zcl at h0 ⊢
 have ht:z8 w.p=true∧0≤w.clock∧w.clock≤1099511627776:=⟨h.pr,h.t0,by have:=h.t1;omega⟩
 rw[if_pos ht] at h0 ⊢
 by_cases e:(zaq w.p.Stake d v k (z1y w.p w.clock)).2=0
 ·rw[if_neg (by simpa using e)]
  have g:=z1r e
  exact z6s h (z14 (zaa9 h.p) g) rfl rfl rfl fun _ _=>⟨rfl,rfl,rfl⟩
 ·rw[if_pos e] at h0;exact absurd h0 e
theorem zaew {w:Wld} (h:OkW w) (v:Int):OkW (zpm w (zac9 w.p v)).1 :=
 zxm h fun _=>z15 h (zrj h.p.1 v (.inr (.inl rfl)))
theorem zalj {w:Wld} (h:OkW w) (v n:Int):OkW (zpm w (ztf w.p v n)).1:=by
 refine zxm h fun h0=>?_
 unfold ztf at h0 ⊢
 rw[if_neg (by rw[h.pr];simp)] at h0 ⊢
 by_cases h1:0≤v∧v < 6
 ·rw[if_pos h1] at h0 ⊢
  by_cases h2:1≤n∧n≤w.p.Height
  ·rw[if_pos h2] at h0 ⊢
   by_cases h3:w.p.Stake.Validators.Dead.get v=true
   ·rw[if_pos h3] at h0;cases h0
   ·rw[if_neg h3];exact z15 h (zrj (zte h.p.1 v n 50) v (.inr (.inr rfl)))
  ·rw[if_neg h2] at h0;cases h0
 ·rw[if_neg h1] at h0;cases h0
theorem zalk {w:Wld} (h:OkW w) (n:Int):OkW (zaev w n).1:=by
 unfold zaev
 split
 ·exact h
 ·rename_i hn
  have:=h.t0;have:=h.t1;have:=h.pt
  exact ⟨h.d0,h.d1,by show 0≤w.clock+n;omega,by show w.clock+n≤_;omega,h.p,h.ph,by show w.p.Time≤w.clock+n;omega,h.pq,fun i hi=>(h.c i hi).more rfl (.refl _ _) (Int.le_refl _) (by show w.clock≤w.clock+n;omega)⟩
theorem zada {M:Int} (hM:0≤M):∀ {l:List Power},(∀ q,q∈l→q.N≤M)→∀ v,zcu l v≤M
 | [],_,v=>by simpa[zcu] using hM
 | q::l,h,v=>by
  simp only[zcu]
  split
  ·exact h q (List.mem_cons_self ..)
  ·exact zada hM (fun q hq=>h q (List.mem_cons_of_mem _ hq)) v
theorem zadb {M:Int}:∀ {d:List Power} {v n:Int},n≤M→(∀ q,q∈d→q.N≤M)→zxa d v n≤M
 | [],v,n,hn,_=>hn
 | q::d,v,n,hn,h=>by
  show zxa d v (if q.V=v then q.N else n)≤M
  refine zadb ?_ (fun q hq=>h q (List.mem_cons_of_mem _ hq))
  split
  ·exact h q (List.mem_cons_self ..)
  ·exact hn
theorem zall {a d:List Power} (ha:zx 1 (-1) a=true) (hd:zx 0 (-1) d=true):zx 1 (-1) (zon a d)=true :=
 zak8 fun v=>zadb (zada (by omega) (fun q hq=>(zj8 (by omega) ha (by omega) q hq).2.2.2) _) (fun q hq=>(zj8 (by omega) hd (by omega) q hq).2.2.2)
structure zaex (c:zc):Prop where
 set:zx 1 (-1) c.Set=true
 ripes:c.Ripes.all zjg=true
 id0:0≤c.Id
 id1:c.Id≤1099511627776
theorem zaie {now:Int} (hn:0≤now∧now≤1099511627776) {c:zc} (h:zaex c) {p:Packet} (hp:zly p=true):zaex (zmk now c p):=by
 rw[zri]
 obtain ⟨g1,g2,_⟩:=z1u (l:=[p]) (by simp[hp]) p (by simp)
 have f:=zj9 g1
 refine ⟨zall h.set f.2.2.2.2.2.2.2.2.1,?_,by show 0≤p.Id;omega,f.2.2.2.1⟩
 show (c.Ripes++[(⟨p.Id,i64.wrap (now+15)⟩:Ripe)]).all zjg=true
 rw[List.all_append,h.ripes]
 have:zjg (⟨p.Id,i64.wrap (now+15)⟩:Ripe)=true:=by
  unfold zjg
  simp only[yy7,decide_eq_true_eq]
  rw[zl (by omega) (by omega)]
  exact ⟨⟨f.2.2.1,f.2.2.2.1⟩,by omega⟩
 simp[this]
theorem z4i {now:Int} (hn:0≤now∧now≤1099511627776):∀ {l:List Packet} {c:zc},zaex c→l.all zly=true→zaex (l.foldl (zmk now) c)
 | [],_,h,_=>h
 | p::l,c,h,hl=>by
  rw[List.all_cons,yy7] at hl
  exact z4i (c:=zmk now c p) hn (zaie hn h hl.1) hl.2
def matP (r:Ripe):Packet:=⟨2,r.Id,0,0,[],[]⟩
def matT (r:Ripe):ByteArray:=txt (zn0 (matP r))
theorem z16 {r:Ripe} (h:zjg r=true):zcz (matP r)=0:=by
 unfold zjg at h
 simp only[yy7,decide_eq_true_eq] at h
 exact zahv h.1.1 h.1.2
theorem z17 {now:Int} (hn:0≤now∧now≤1099511627776):∀ (rs:List Ripe) (c:zc),c.Ripes=rs→zd1 c.Out→rs.all zjg=true →
  ∃ k,k≤rs.length∧zop now rs c={ c with Ripes:=rs.drop k,Out:={ c.Out with Said:=c.Out.Said++(rs.take k).map matT,Due:=c.Out.Due++List.replicate k (now+40) } } ∧
   (∀ r,r∈rs.take k→r.Due≤now)∧(k=rs.length∨(∃ r,rs[k]?=some r∧now < r.Due)∨c.Out.Closed=true∨400≤c.Out.Said.length+k)∧c.Out.Said.length+k≤400
 | [],c,hr,hg,_=>⟨0,Nat.le_refl _,by
   show c={ c with Ripes:=[],Out:={ c.Out with Said:=c.Out.Said++[],Due:=c.Out.Due++[] } }
   rw[List.append_nil,List.append_nil,← hr],by simp,.inl rfl,by have:c.Out.Said.length≤400:=hg.2.1;omega⟩
 | r::rs,c,hr,hg,ha=>by
  have h400:c.Out.Said.length≤400:=hg.2.1
  rw[List.all_cons,yy7] at ha
  have hstop:(r.Due≤now→c.Out.Closed=true∨400≤c.Out.Said.length)→zop now (r::rs) c=c→∃ k,k≤(r::rs).length∧zop now (r::rs) c={ c with Ripes:=(r::rs).drop k,Out:={ c.Out with Said:=c.Out.Said++((r::rs).take k).map matT,Due:=c.Out.Due++List.replicate k (now+40) } } ∧
    (∀ q,q∈(r::rs).take k→q.Due≤now)∧(k=(r::rs).length∨(∃ q,(r::rs)[k]?=some q∧now < q.Due)∨c.Out.Closed=true∨400≤c.Out.Said.length+k)∧c.Out.Said.length+k≤400:=by
   intro h1 h2
   refine ⟨0,Nat.zero_le _,by rw[h2];simp[← hr],by simp,?_,by omega⟩
   by_cases hd:r.Due≤now
   ·rcases h1 hd with k | k
    ·exact .inr (.inr (.inl k))
    ·exact .inr (.inr (.inr (by omega)))
   ·exact .inr (.inl ⟨r,rfl,by omega⟩)
  by_cases hd:r.Due≤now
  ·by_cases hc:c.Out.Closed=true∨400≤c.Out.Said.length
   ·refine hstop (fun _=>hc) ?_
    have e0:(zr2 ⟨2,r.Id,0,0,[],[]⟩ now c).1≠0:=by
     intro e
     obtain ⟨_,k,_⟩:=zahu e
     obtain ⟨_,_,k1,k2,_⟩:=zaax k
     rcases hc with hc | hc
     ·rw[hc] at k1;cases k1
     ·omega
    unfold zop
    rw[if_pos hd,if_pos e0]
   ·have hc1:c.Out.Closed=false:=Bool.eq_false_iff.2 (fun h=>hc (.inl h))
    have hc2:c.Out.Said.length < 400:=by have:¬ 400≤c.Out.Said.length:=fun h=>hc (.inr h);omega
    have hw:i64.wrap (now+40)=now+40:=zl (by omega) (by omega)
    have hs:=zak6 (p:=matP r) (now:=now) (c:=c) (z16 ha.1) hg (by rw[hw];omega) hc1 hc2
    rw[hw] at hs
    obtain ⟨c',hc'⟩:∃ c':zc,c'={ c with Ripes:=rs,Out:={ c.Out with Said:=c.Out.Said++[matT r],Due:=c.Out.Due++[now+40] } }:=⟨_,rfl⟩
    have hstep:zop now (r::rs) c=zop now rs c':=by
     have hs':zr2 ⟨2,r.Id,0,0,[],[]⟩ now c=_:=hs
     rw[zop,if_pos hd,hs',if_neg (by simp),hc']
     rfl
    have hg':zd1 c'.Out:=by rw[hc'];exact z4b hg (by omega) hc2
    obtain ⟨k,k1,k2,k3,k4,k5⟩:=z17 hn rs c' (by rw[hc']) hg' ha.2
    have l1:c'.Out.Said.length=c.Out.Said.length+1:=by rw[hc'];simp
    refine ⟨k+1,by simp only[List.length_cons];omega,?_,?_,?_,by omega⟩
    ·rw[hstep,k2,hc']
     simp only[List.drop_succ_cons,List.take_succ_cons,List.map_cons,List.append_assoc,List.singleton_append,List.replicate_succ]
    ·intro q hq
     rw[List.take_succ_cons] at hq
     rcases List.mem_cons.1 hq with rfl | hq
     ·exact hd
     ·exact k3 q hq
    ·rcases k4 with k4 | k4 | k4 | k4
     ·exact .inl (by simp only[List.length_cons];omega)
     ·exact .inr (.inl (by simpa using k4))
     ·exact .inr (.inr (.inl (by rw[hc'] at k4;exact k4)))
     ·exact .inr (.inr (.inr (by omega)))
  ·exact hstop (fun h=>absurd h hd) (by unfold zop;rw[if_neg hd])
theorem zaey {l:zim} (h:zd1 l) {t:List ByteArray} {n u:Int} (hu:0≤u) (hl:l.Said.length+t.length≤400):zd1 { l with Said:=l.Said++t,Due:=l.Due++List.replicate t.length u }:=by
 obtain ⟨g1,g2,g3,g4,g5⟩:=h
 refine ⟨by simp[g1],by simp only[yy6];omega,g3,by simp only[yy6];omega,?_⟩
 simp only[List.any_append,g5,Bool.false_or]
 rw[List.any_eq_false]
 intro x hx
 rw[List.eq_of_mem_replicate hx]
 simp only[decide_eq_true_eq];omega
theorem ztw {now:Int} {c:zc} (hg:zin c=true) (ho:c.On=true) (ht:c.Time≤now∧now≤1099511627776) (hh:c.Height+1 < 1099511627776) :
  (zxh now c).2=0∧∃ m k,m=c.Pending.foldl (zmk now) { c with Height:=c.Height+1,Time:=now }∧zaex m∧m.Ripes.length=c.Ripes.length+c.Pending.length∧k≤m.Ripes.length ∧
   (zxh now c).1={ m with Pending:=[],Ripes:=m.Ripes.drop k,Out:={ c.Out with Said:=c.Out.Said++(m.Ripes.take k).map matT,Due:=c.Out.Due++List.replicate k (now+40) } } ∧
   m.On=c.On∧m.Gone=c.Gone∧m.Height=c.Height+1∧m.Time=now∧m.Out=c.Out∧(∀ r,r∈m.Ripes.take k→r.Due≤now) ∧
   (k=m.Ripes.length∨(∃ r,m.Ripes[k]?=some r∧now < r.Due)∨c.Out.Closed=true∨400≤c.Out.Said.length+k)∧c.Out.Said.length+k≤400∧zin (zxh now c).1=true:=by
 obtain ⟨g1,g2,g3,g4,g5⟩:=zbt hg
 have hw:i64.wrap (c.Height+1)=c.Height+1:=zl (by have:=g1.2;omega) (by have:=g1.2;omega)
 have hn0:0≤now:=by have:=g1.2.2.2.1;omega
 have he:=zak7 (now:=now) hg ho ht.1 ht.2
 rw[hw] at he
 obtain ⟨m,hm⟩:∃ m,m=c.Pending.foldl (zmk now) { c with Height:=c.Height+1,Time:=now }:=⟨_,rfl⟩
 rw[← hm] at he
 have hpm:zaex m:=by rw[hm];exact z4i ⟨hn0,ht.2⟩ ⟨g3,g4,g1.2.2.2.2.2.1,g1.2.2.2.2.2.2⟩ g5
 obtain ⟨f1,f2,f3,f4,f5,f6⟩:=zuq (now:=now) c.Pending { c with Height:=c.Height+1,Time:=now }
 rw[← hm] at f1 f2 f3 f4 f5 f6
 obtain ⟨k,k1,k2,k3,k4,k5⟩:=z17 (now:=now) ⟨hn0,ht.2⟩ m.Ripes { m with Pending:=[] } rfl (by show zd1 m.Out;rw[f2];exact g2) hpm.ripes
 replace f2:m.Out=c.Out:=f2
 simp only[f2] at k4 k5
 have hfin:(zxh now c).1={ m with Pending:=[],Ripes:=m.Ripes.drop k,Out:={ c.Out with Said:=c.Out.Said++(m.Ripes.take k).map matT,Due:=c.Out.Due++List.replicate k (now+40) } }:=by
  rw[he]
  show zop now m.Ripes { m with Pending:=[] }=_
  rw[k2]
  simp only[f2]
 refine ⟨by rw[he],m,k,hm,hpm,f1,k1,hfin,f3,f4,f5,f6,f2,k3,k4,k5,?_⟩
 rw[hfin]
 have hl:((m.Ripes.take k).map matT).length=k:=by rw[List.length_map,List.length_take];omega
 refine zoq ⟨by show (m.On&&m.Gone)=false;rw[f3,f4];exact g1.1,by show 0≤m.Height;rw[f5];show 0≤c.Height+1;have:=g1.2;omega,?_,by show 0≤m.Time;rw[f6];exact hn0,by show m.Time≤_;rw[f6];exact ht.2,hpm.id0,hpm.id1⟩ ?_ hpm.set ?_ rfl
 ·show m.Height < _;rw[f5];show c.Height+1 < _
  exact hh
 ·have:=zaey (n:=0) g2 (t:=(m.Ripes.take k).map matT) (u:=now+40) (by omega) (by rw[hl];exact k5)
  rw[hl] at this
  exact this
 ·show (m.Ripes.drop k).all zjg=true
  rw[List.all_eq_true]
  intro r hr
  exact List.all_eq_true.1 hpm.ripes r (List.mem_of_mem_drop hr)
theorem z18 {w w':Wld} (h:OkW w) (hd:w.deeds < 600) (e1:w'.deeds=w.deeds+1) (e2:w'.clock=w.clock) (p:GoodX w'.p) (ph:w'.p.Height≤w.deeds+1) (pt:w'.p.Time≤w.clock) (pq:((w'.p.Queue.length:Nat):Int)≤w.deeds+1)
  {i:Int} (ci:ConsW w' i) (cj:∀ j:Int,0≤j∧j < 2→j≠i→zb w'.consumers j=zb w.consumers j∧SameL w'.p w.p j):OkW w':=by
 have d0:=h.d0
 refine ⟨by omega,by omega,by rw[e2];exact h.t0,by rw[e2];exact h.t1,p,by omega,by omega,by omega,fun j hj=>?_⟩
 by_cases e:j=i
 ·rw[e];exact ci
 ·obtain ⟨c1,c2⟩:=cj j hj e
  exact (h.c j hj).more c1 c2 (by omega) (by omega)
theorem z6t {w w':Wld} (h:OkW w) (hd:w.deeds < 600) (e1:w'.deeds=w.deeds+1) (e2:w'.clock=w.clock) (e3:w'.p=w.p) {i:Int} (hi:0≤i∧i < 2) {c:zc} (hc:w'.consumers=zla w.consumers i c)
  (good:zin c=true) (height:c.Height≤w.deeds+1) (time:c.Time≤w.clock) (size:((c.Pending.length+c.Ripes.length:Nat):Int)≤w.deeds+1) (on:c.On=(zb w.consumers i).On) (gone:c.Gone=(zb w.consumers i).Gone)
  (said:∀ s,s∈c.Out.Said→PkB s) (ho:(zb w.consumers i).On=true):OkW w':=by
 have hw:=h.c i hi
 have hci:zb w'.consumers i=c:=by rw[hc,zec hi]
 refine z18 (i:=i) h hd e1 e2 (by rw[e3];exact h.p) (by rw[e3];have:=h.ph;omega) (by rw[e3];exact h.pt) (by rw[e3];have:=h.pq;omega) ?_ fun j hj hji=>⟨by rw[hc,zc2 hi hj hji],by rw[e3];exact .refl _ _⟩
 have on':w.p.Links.On.get i=true:=by rw[← hw.on];exact ho
 refine ⟨by rw[hci];exact good,by rw[hci,e1];exact height,by rw[hci,e2];exact time,by rw[hci,e1];exact size,by rw[hci,e3,on];exact hw.on,by rw[hci,e3,gone];exact hw.gone,by rw[e3];exact hw.told,by rw[hci];exact said,fun k=>?_⟩
 rw[e3,on'] at k;cases k
theorem zaig {a b:ByteArray} (h:a.toList=b.toList):a=b:=by
 rw[ByteArray.toList_eq,ByteArray.toList_eq] at h
 obtain ⟨⟨a⟩⟩:=a
 obtain ⟨⟨b⟩⟩:=b
 simp only at h
 rw[h]
theorem zap0 {r:Ripe} (h:zjg r=true):PkB (matT r):=⟨matP r,z16 h,by unfold matP;simp,rfl⟩
theorem zaba {w:Wld} (h:OkW w) (hd:w.deeds < 600) {i:Int} (hi:0≤i∧i < 2) (ho:(zb w.consumers i).On=true):OkW (ztv (zav w) i).1:=by
 have hc:=h.c i hi
 have h1:=h.t1
 have hh:=hc.height
 obtain ⟨e0,m,k,hm,hpm,hl,hk,hf,f1,f2,f3,f4,f5,f6,f7,f8,hg⟩:=ztw hc.good ho ⟨hc.time,by omega⟩ (by omega)
 unfold ztv
 rw[if_neg (by show ¬ (zxh w.clock (zb w.consumers i)).2≠0;rw[e0];simp)]
 refine z6t h hd rfl rfl rfl hi (c:=(zxh w.clock (zb w.consumers i)).1) rfl hg ?_ ?_ ?_ ?_ ?_ ?_ ho
 all_goals rw[hf]
 ·show m.Height≤_;rw[f3];omega
 ·show m.Time≤_;rw[f4];omega
 ·have:=hc.size
  simp only[List.length_nil,List.length_drop]
  omega
 ·exact f1
 ·exact f2
 ·intro s hs
  rcases List.mem_append.1 hs with hs | hs
  ·exact hc.said s hs
  ·obtain ⟨r,hr,rfl⟩:=List.mem_map.1 hs
   exact zap0 (List.all_eq_true.1 hpm.ripes r (List.mem_of_mem_take hr))
theorem z19 {c:zc} (hg:zin c=true) {q:Packet} (hq:q.Kind≠1) {now:Int} (h:(zr2 q now c).1=0) :
  zcz q=0∧0≤i64.wrap (now+40)∧c.Out.Closed=false∧c.Out.Said.length < 400∧(zr2 q now c).2={ c with Out:={ c.Out with Said:=c.Out.Said++[txt (zn0 q)],Due:=c.Out.Due++[i64.wrap (now+40)] } }∧zin (zr2 q now c).2=true:=by
 obtain ⟨k1,k2,k3⟩:=zahu h
 obtain ⟨l1,l2,l3,l4,_⟩:=zaax k2
 obtain ⟨g1,g2,g3,g4,g5⟩:=zbt hg
 refine ⟨k1,l2,l3,l4,by rw[k3],?_⟩
 rw[k3]
 exact zoq g1 (z4b l1 l2 l4) g3 g4 g5
theorem zaih {w w':Wld} (h:OkW w) (hd:w.deeds < 600) (e1:w'.deeds=w.deeds+1) (e2:w'.clock=w.clock) (e3:w'.p=w.p) {i:Int} (hi:0≤i∧i < 2) (ho:(zb w.consumers i).On=true) {q:Packet} (hq:q.Kind≠1) (hs:(zr2 q w.clock (zb w.consumers i)).1=0) {f:A6 Bool}
  (hc:w'.consumers=zla w.consumers i { (zr2 q w.clock (zb w.consumers i)).2 with Flags:=f }):OkW w':=by
 have hw:=h.c i hi
 obtain ⟨s1,s2,s3,s4,s5,s6⟩:=z19 hw.good hq hs
 obtain ⟨g1,g2,g3,g4,g5⟩:=zbt s6
 have hz:=hw.size;have hh:=hw.height;have ht:=hw.time
 refine z6t h hd e1 e2 e3 hi hc (zoq g1 g2 g3 g4 g5) ?_ ?_ ?_ ?_ ?_ ?_ ho
 all_goals rw[s5]
 ·show (zb w.consumers i).Height≤_;omega
 ·exact ht
 ·show (((zb w.consumers i).Pending.length+(zb w.consumers i).Ripes.length:Nat):Int)≤_;omega
 ·intro s hs
  rcases List.mem_append.1 hs with hs | hs
  ·exact hw.said s hs
  ·rw[List.mem_singleton.1 hs];exact ⟨q,s1,hq,rfl⟩
theorem zadc {w:Wld} (h:OkW w) (hd:w.deeds < 600) {i:Int} {r:zc×Int} (hr:r.2=0→OkW { zav w with consumers:=zla w.consumers i r.1 }):OkW (putW (zav w) i r).1:=by
 unfold putW
 by_cases e:r.2=0
 ·rw[if_neg (by simpa using e)];exact hr e
 ·rw[if_pos e];exact zjj h hd
theorem zalm {w:Wld} (h:OkW w) (hd:w.deeds < 600) {i:Int} (hi:0≤i∧i < 2) (ho:(zb w.consumers i).On=true) (v:Int):OkW (putW (zav w) i (z1v (zb w.consumers i) v w.clock)).1:=by
 refine zadc h hd fun h0=>?_
 obtain ⟨_,_,_,_,_,_,_,hs,he⟩:=zacw h0
 rw[he]
 exact zaih h hd rfl rfl rfl hi ho (by simp) hs rfl
theorem zaez {w:Wld} (h:OkW w) (hd:w.deeds < 600) {i:Int} (hi:0≤i∧i < 2) (ho:(zb w.consumers i).On=true) (v n:Int):OkW (putW (zav w) i (zpl (zb w.consumers i) v n w.clock)).1:=by
 refine zadc h hd fun h0=>?_
 unfold zpl at h0 ⊢
 by_cases h1:zin (zb w.consumers i)=false∨w.clock < 0∨1099511627776 < w.clock
 ·rw[if_pos h1] at h0;cases h0
 rw[if_neg h1] at h0 ⊢
 by_cases h2:(zb w.consumers i).On=false∨v < 0∨5 < v
 ·rw[if_pos h2] at h0;cases h0
 rw[if_neg h2] at h0 ⊢
 by_cases h3:n < 1∨(zb w.consumers i).Id < n
 ·rw[if_pos h3] at h0;cases h0
 rw[if_neg h3] at h0 ⊢
 exact zaih h hd rfl rfl rfl hi ho (q:=⟨4,n,v,maxC (zb w.consumers i) v,[],[]⟩) (by simp) h0 (f:=(zr2 ⟨4,n,v,maxC (zb w.consumers i) v,[],[]⟩ w.clock (zb w.consumers i)).2.Flags) rfl
theorem zae0 {p:za} (h:GoodX p) {i:Int} (hi:0≤i∧i < 2) {l:zim} (hl:zd1 l):GoodX { p with Links:=zy8 p.Links i l }:=by
 have hlk:∀ j:Int,0≤j∧j < 2→LkX { p with Links:=zy8 p.Links i l } j:=by
  intro j hj
  obtain ⟨a1,a2,a3,a4,a5,a6⟩:=h.lk hj
  refine ⟨a1,a2,a3,a4,?_,a6⟩
  rw[zvw,ztu hi hj]
  split
  ·exact hl
  ·exact a5
 exact ⟨h.1,h.2.1,h.2.2.1,okLk_iff.2 (hlk 0 (by omega)),okLk_iff.2 (hlk 1 (by omega)),h.2.2.2.2.2⟩
theorem zae1 {p:za} (h:GoodX p) (i:Int) (s:Head):GoodX { p with Links:=zyj p.Links i s }:=by
 have hlk:∀ j:Int,0≤j∧j < 2→LkX { p with Links:=zyj p.Links i s } j:=by
  intro j hj
  obtain ⟨a1,a2,a3,a4,a5,a6⟩:=h.lk hj
  exact ⟨a1,a2,a3,a4,a5,a6⟩
 exact ⟨h.1,h.2.1,h.2.2.1,okLk_iff.2 (hlk 0 (by omega)),okLk_iff.2 (hlk 1 (by omega)),h.2.2.2.2.2⟩
theorem zaii {w:Wld} (h:OkW w) (hd:w.deeds < 600) {i:Int} (hi:0≤i∧i < 2) (ho:(zb w.consumers i).On=true) (back:Bool):OkW (z4h (zav w) i back).1:=by
 unfold z4h
 have hw:=h.c i hi
 cases back with
 | true =>
  rw[if_pos rfl]
  refine z6s (zjj h hd) (zae1 h.p i _) rfl rfl rfl fun j hj=>⟨rfl,rfl,?_⟩
  rfl
 | false =>
  rw[if_neg (by simp)]
  obtain ⟨g1,g2,g3,g4,g5⟩:=zbt hw.good
  have hz:=hw.size;have hh:=hw.height
  exact z6t h hd rfl rfl rfl hi rfl (zoq g1 g2 g3 g4 g5) (by show (zb w.consumers i).Height≤_;omega) hw.time (by show (((zb w.consumers i).Pending.length+(zb w.consumers i).Ripes.length:Nat):Int)≤_;omega) rfl rfl hw.said ho
theorem z4j {w:Wld} {d:Deed} (h:(zlp w d).2=0):zd1 (zdi w d.C d.Back)∧(zdi w d.C d.Back).Closed=false∧(zdi w d.C d.Back).Got+1≤((zdi w d.C d.Back).Said.length:Int)∧(zdi w d.C d.Back).Got+1≤z6q w d.C d.Back ∧
  zji (zdi w d.C d.Back) d.Forged=(zdi w d.C d.Back).Said.getD (zdi w d.C d.Back).Got.toNat .empty∧w.clock < (zdi w d.C d.Back).Due.getD (zdi w d.C d.Back).Got.toNat 0 ∧
  (zlp w d).1={ zdi w d.C d.Back with Got:=(zdi w d.C d.Back).Got+1 }∧zd1 (zlp w d).1:=by
 have hs:(zdi w d.C d.Back).Got+1≤z6q w d.C d.Back:=by
  unfold zlp zmh at h
  by_cases h1:¬ zd1 (zdi w d.C d.Back)
  ·rw[if_pos h1] at h;cases h
  rw[if_neg h1] at h
  have hl:=Classical.not_not.1 h1
  have e4:(zdi w d.C d.Back).Said.length≤400:=hl.2.1
  have hw:i64.wrap ((zdi w d.C d.Back).Got+1)=(zdi w d.C d.Back).Got+1:=zl (by have:=hl.2.2.1;omega) (by have:=hl.2.2.2.1;omega)
  rw[hw] at h
  by_cases h2:(zdi w d.C d.Back).Closed=true
  ·rw[if_pos h2] at h;cases h
  rw[if_neg h2,if_neg (by simp)] at h
  by_cases h3:z6q w d.C d.Back < (zdi w d.C d.Back).Got+1∨((zdi w d.C d.Back).Said.length:Int) < (zdi w d.C d.Back).Got+1∨((zdi w d.C d.Back).Said.getD (zdi w d.C d.Back).Got.toNat .empty).toList≠(zji (zdi w d.C d.Back) d.Forged).toList
  ·rw[if_pos h3] at h;cases h
  ·simp only[not_or] at h3;omega
 obtain ⟨h1,h2,h3,h4,h5,h6,h7⟩:=zad4 h
 have e4:(zdi w d.C d.Back).Said.length≤400:=h1.2.1
 have hw:i64.wrap ((zdi w d.C d.Back).Got+1)=(zdi w d.C d.Back).Got+1:=zl (by have:=h1.2.2.1;omega) (by have:=h1.2.2.2.1;omega)
 rw[hw] at h4
 have he:(zlp w d).1={ zdi w d.C d.Back with Got:=(zdi w d.C d.Back).Got+1 }:=by
  unfold zlp
  rw[h7,hw]
 refine ⟨h1,Bool.eq_false_iff.2 h2,h4,hs,?_,h6,he,?_⟩
 ·exact (zaig h5).symm
 ·rw[he]
  obtain ⟨g1,g2,g3,g4,g5⟩:=h1
  exact ⟨g1,g2,by show 0≤(zdi w d.C d.Back).Got+1;omega,h4,g5⟩
theorem z2a {c:zc} (hg:zin c=true) {s:List UInt8} (h:(ztd c s).2=0):c.On=true∧zcz (zau s).1=0∧(zau s).1.Kind=1∧(zau s).2=0∧(ztd c s).1={ c with Pending:=c.Pending++[(zau s).1] }∧zin (ztd c s).1=true:=by
 unfold ztd at h ⊢
 rw[if_neg (by rw[hg];simp)] at h ⊢
 by_cases h1:c.On=false
 ·rw[if_pos h1] at h;cases h
 rw[if_neg h1] at h ⊢
 by_cases h2:(zau s).2=0
 ·rw[if_neg (by simpa using h2)] at h ⊢
  by_cases h3:(zau s).1.Kind=1
  ·rw[if_neg (by simpa using h3)]
   have gp:=zac6 h2
   refine ⟨by simpa using h1,gp,h3,h2,rfl,?_⟩
   obtain ⟨g1,g2,g3,g4,g5⟩:=zbt hg
   refine zoq g1 g2 g3 g4 ?_
   show (c.Pending++[(zau s).1]).all zly=true
   rw[List.all_append,g5]
   simp[zly,gp,h3]
  ·rw[if_pos h3] at h;cases h
 ·rw[if_pos h2] at h;exact absurd h h2
theorem zzb {p:za} (hg:z8 p=true) {i:Int} {s:List UInt8} (h:(zl0 p i s).2=0):(0≤i∧i < 2)∧p.Links.On.get i=true∧zcz (zau s).1=0∧(zau s).1.Kind≠1∧(zau s).2=0∧(zl0 p i s).1={ p with Queue:=p.Queue++[⟨i,(zau s).1⟩] }∧GoodX (zl0 p i s).1:=by
 unfold zl0 at h ⊢
 rw[if_neg (by rw[hg];simp)] at h ⊢
 by_cases h1:(0≤i∧i < 2)∧p.Links.On.get i=true
 ·rw[if_pos h1] at h ⊢
  by_cases h2:(zau s).2=0
  ·rw[if_neg (by simpa using h2)] at h ⊢
   by_cases h3:(zau s).1.Kind=1
   ·rw[if_pos h3] at h;cases h
   ·rw[if_neg h3]
    have gp:=zac6 h2
    have hx:=(goodPr_iff.1 hg).1
    refine ⟨h1.1,h1.2,gp,h3,h2,rfl,hx.1,hx.2.1,hx.2.2.1,hx.2.2.2.1,hx.2.2.2.2.1,?_⟩
    show (p.Queue++[_]).all _=true
    rw[List.all_append,yy7]
    refine ⟨hx.2.2.2.2.2,List.all_eq_true.2 fun b hb=>?_⟩
    rw[List.mem_singleton.1 hb]
    exact ask_iff.2 ⟨h1.1,h1.2,gp,h3⟩
  ·rw[if_pos h2] at h;exact absurd h h2
 ·rw[if_neg h1] at h;cases h
theorem zabb {w:Wld} (h:OkW w) (hd:w.deeds < 600) {d:Deed} (hi:0≤d.C∧d.C < 2) (ho:(zb w.consumers d.C).On=true):OkW (zos (zav w) d).1:=by
 have hw:=h.c d.C hi
 unfold zos
 by_cases h0:(zlp w d).2=0
 ·rw[if_neg (by show ¬ (zlp w d).2≠0;simpa using h0)]
  obtain ⟨f1,f2,f3,f4,f5,f6,f7,f8⟩:=z4j h0
  cases hb:d.Back with
  | true =>
   rw[if_pos rfl]
   rw[hb] at f5
   have e0:zdi w d.C true=(zb w.consumers d.C).Out:=rfl
   by_cases h1:(zl0 w.p d.C (zji (zdi w d.C true) d.Forged).data.toList).2=0
   ·rw[if_neg (by show ¬ (zl0 w.p d.C (zji (zdi w d.C true) d.Forged).data.toList).2≠0;simpa using h1)]
    obtain ⟨q1,q2,q3,q4,q5,q6,q7⟩:=zzb h.pr h1
    obtain ⟨g1,g2,g3,g4,g5⟩:=zbt hw.good
    have hz:=hw.size;have hh:=hw.height;have hp:=h.ph;have hq:=h.pq
    have hr:(zlp w d).1={ (zb w.consumers d.C).Out with Got:=(zb w.consumers d.C).Out.Got+1 }:=by rw[f7,hb];rfl
    have e6:(zl0 (zav w).p d.C (zji (zdi (zav w) d.C true) d.Forged).data.toList).1={ w.p with Queue:=w.p.Queue++[⟨d.C,(zau (zji (zdi w d.C true) d.Forged).data.toList).1⟩] }:=q6
    simp only[e6]
    refine z18 (i:=d.C) h hd rfl rfl (by rw[← q6];exact q7) (by show w.p.Height≤_;omega) h.pt (by show (((w.p.Queue++[_]).length:Nat):Int)≤_;rw[yy6,yy5];omega) ?_ fun j hj hji=>⟨zc2 hi hj hji _,rfl,rfl,rfl⟩
    have hci:zb (zla (zav w).consumers d.C { zb (zav w).consumers d.C with Out:=(zlp (zav w) d).1 }) d.C={ zb w.consumers d.C with Out:=(zlp w d).1 }:=zec hi _
    refine ⟨?_,?_,?_,?_,?_,?_,hw.told,?_,fun k=>?_⟩
    ·rw[hci];exact zoq g1 f8 g3 g4 g5
    ·rw[hci];show (zb w.consumers d.C).Height≤w.deeds+1;omega
    ·rw[hci];exact hw.time
    ·rw[hci];show (((zb w.consumers d.C).Pending.length+(zb w.consumers d.C).Ripes.length:Nat):Int)≤w.deeds+1;omega
    ·rw[hci];exact hw.on
    ·rw[hci];exact hw.gone
    ·rw[hci];show ∀ s,s∈(zlp w d).1.Said→PkB s;rw[hr];exact hw.said
    ·have k':w.p.Links.On.get d.C=false:=k
     rw[q2] at k';cases k'
   ·rw[if_pos (by exact h1)];exact zjj h hd
  | false =>
   rw[if_neg (by simp)]
   rw[hb] at f5
   by_cases h1:(ztd (zb w.consumers d.C) (zji (zdi w d.C false) d.Forged).data.toList).2=0
   ·rw[if_neg (by show ¬ (ztd (zb w.consumers d.C) (zji (zdi w d.C false) d.Forged).data.toList).2≠0;simpa using h1)]
    obtain ⟨q1,q2,q3,q4,q5,q6⟩:=z2a hw.good h1
    have hz:=hw.size;have hh:=hw.height;have hp:=h.ph;have hq:=h.pq
    have hr:(zlp w d).1={ (ze w.p.Links d.C).Out with Got:=(ze w.p.Links d.C).Out.Got+1 }:=by rw[f7,hb];rfl
    have on':w.p.Links.On.get d.C=true:=by rw[← hw.on];exact ho
    refine z18 (i:=d.C) h hd rfl rfl (zae0 h.p hi f8) (by show w.p.Height≤_;omega) h.pt (by show ((w.p.Queue.length:Nat):Int)≤_;omega) ?_ fun j hj hji=>⟨zc2 hi hj hji _,rfl,rfl,?_⟩
    ·have hci:zb (zla (zav w).consumers d.C (ztd (zb (zav w).consumers d.C) (zji (zdi (zav w) d.C false) d.Forged).data.toList).1) d.C=(ztd (zb w.consumers d.C) (zji (zdi w d.C false) d.Forged).data.toList).1:=zec hi _
     refine ⟨?_,?_,?_,?_,?_,?_,?_,?_,fun k=>?_⟩
     ·rw[hci];exact q6
     ·rw[hci,q5];show (zb w.consumers d.C).Height≤w.deeds+1;omega
     ·rw[hci,q5];exact hw.time
     ·rw[hci,q5]
      show ((((zb w.consumers d.C).Pending++[_]).length+(zb w.consumers d.C).Ripes.length:Nat):Int)≤w.deeds+1
      rw[yy6,yy5];omega
     ·rw[hci,q5];exact hw.on
     ·rw[hci,q5];exact hw.gone
     ·show ∀ s,s∈(ze (zy8 w.p.Links d.C (zlp w d).1) d.C).Out.Said→Pk1 s
      rw[ztu hi hi,if_pos rfl,hr];exact hw.told
     ·rw[hci,q5];exact hw.said
     ·have k':w.p.Links.On.get d.C=false:=k
      rw[on'] at k';cases k'
    ·show (ze (zy8 w.p.Links d.C (zlp w d).1) j).Out.Said=_
     rw[ztu hi hj,if_neg hji]
   ·rw[if_pos (by exact h1)];exact zjj h hd
 ·rw[if_pos (by exact h0)];exact zjj h hd
theorem zabc {w:Wld} (h:OkW w) (hd:w.deeds < 600):OkW (zjh (zav w)).1:=by
 have ht:z8 w.p=true∧w.p.Time≤w.clock∧w.clock≤1099511627776:=⟨h.pr,h.pt,by have:=h.t1;omega⟩
 unfold zjh
 rw[if_neg (by show ¬ (zgs w.p w.clock).2.2≠0;rw[zaa6 ht];simp)]
 obtain ⟨r1,r2,r3,r4,r5,r6,r7,r8⟩:=zor ht
 obtain ⟨S,D,M,e,hS,hdn,hl,hm⟩:=zz3 ht.1 w.clock
 have hg:=zalf ht.1 ht.2
 have hp:=h.ph;have hq:=h.pq;have d0:=h.d0
 refine ⟨by show 0≤w.deeds+1;omega,by show w.deeds+1≤600;omega,h.t0,h.t1,hg,by show (zgs w.p w.clock).1.Height≤w.deeds+1;rw[r1];omega,by show (zgs w.p w.clock).1.Time≤w.clock;rw[r2];exact Int.le_refl _,by show (((zgs w.p w.clock).1.Queue.length:Nat):Int)≤w.deeds+1;rw[r5];omega,fun i hi=>?_⟩
 obtain ⟨D',-,hD⟩:=zac8 ht hi
 have hw:=h.c i hi
 have hz:=hw.size;have hh:=hw.height
 have o1:(zgs w.p w.clock).1.Links.On.get i=w.p.Links.On.get i:=by rw[r6]
 have o2:(zgs w.p w.clock).1.Links.Gone.get i=w.p.Links.Gone.get i:=by rw[r7]
 refine ⟨hw.good,by show (zb w.consumers i).Height≤w.deeds+1;omega,hw.time,by show (((zb w.consumers i).Pending.length+(zb w.consumers i).Ripes.length:Nat):Int)≤w.deeds+1;omega,hw.on.trans o1.symm,hw.gone.trans o2.symm,?_,hw.said,?_⟩
 ·show ∀ s,s∈(ze (zgs w.p w.clock).1.Links i).Out.Said→Pk1 s
  rw[← zvw]
  rcases hD with ⟨-,-,-,e4,-⟩ | ⟨-,-,-,-,-,-,-,e8,e9⟩
  ·rw[e4];exact hw.told
  ·rw[e9]
   intro s hs
   rcases List.mem_append.1 hs with hs | hs
   ·exact hw.told s hs
   ·rw[List.mem_singleton.1 hs];exact ⟨_,e8,rfl,rfl⟩
 ·intro k1 k2
  have k1':w.p.Links.On.get i=false:=o1.symm.trans k1
  obtain ⟨c1,c2⟩:=hw.fresh k1' (o2.symm.trans k2)
  refine ⟨c1,?_⟩
  show (ze (zgs w.p w.clock).1.Links i).Out.Said=[]
  rw[← zvw]
  rcases hD with ⟨-,-,-,e4,-⟩ | ⟨-,-,-,e4,-⟩
  ·rw[e4];exact c2
  ·rw[k1'] at e4;cases e4
theorem zk9 {L:Links} {i j H:Int} {T:List Power} {f:Bool} (hi:0≤i∧i < 2) (hj:0≤j∧j < 2):ze (zgx L i H T f) j=if j=i then ⟨true,false,H,T,f,[],⟨[],[],0,false⟩,⟨0,0,0,0⟩⟩ else ze L j:=by
 unfold ze zgx
 simp only[zak _ _ hi hj]
 by_cases e:j=i
 ·simp only[if_pos e]
 ·simp only[if_neg e]
theorem zvx {p:za} {i:Int} (h:(zdr p i).2=0):z8 p=true∧(0≤i∧i < 2)∧p.Links.Gone.get i=false∧p.Links.On.get i=false∧1≤p.Height∧p.Set.length≠0∧(zdr p i).1=zl1 p i (p.Stake.Waits.map (zdh i p.Height)) (zt6 p):=by
 unfold zdr at h ⊢
 cases hg:z8 p with
 | false=>rw[if_pos hg] at h;cases h
 | true =>
  rw[if_neg (by rw[hg];simp)] at h
  rw[if_neg (by simp)]
  by_cases hi:0≤i∧i < 2
  ·rw[if_pos hi] at h ⊢
   by_cases h1:p.Links.Gone.get i=true
   ·rw[if_pos h1] at h;cases h
   rw[if_neg h1] at h ⊢
   by_cases h2:p.Links.On.get i=true
   ·rw[if_pos h2] at h;cases h
   rw[if_neg h2] at h ⊢
   by_cases h3:p.Height < 1∨p.Set.length=0
   ·rw[if_pos h3] at h;cases h
   rw[if_neg h3]
   simp only[not_or] at h3
   exact ⟨rfl,hi,Bool.eq_false_iff.2 h1,Bool.eq_false_iff.2 h2,by omega,h3.2,rfl⟩
  ·rw[if_neg hi] at h;cases h
theorem zae2 {p:za} (hx:GoodX p) {i:Int} (hi:0≤i∧i < 2) (ho:p.Links.On.get i=false):GoodX (zl1 p i (p.Stake.Waits.map (zdh i p.Height)) (zt6 p)):=by
 obtain ⟨b1,b2,b3,b4,b5,b6,b7⟩:=hx.1
 have hf:∀ w,(zdh i p.Height w).Number=w.Number∧(zdh i p.Height w).D=w.D∧(zdh i p.Height w).V=w.V∧(zdh i p.Height w).Amount=w.Amount∧(zdh i p.Height w).Height=w.Height∧(zdh i p.Height w).Due=w.Due:=by
  intro w;unfold zdh;split<;>exact ⟨rfl,rfl,rfl,rfl,rfl,rfl⟩
 have gs:GoodS { p.Stake with Waits:=p.Stake.Waits.map (zdh i p.Height) }:=by
  refine ⟨b1,⟨b2.1,b2.2.1,by show (p.Stake.Waits.map _).length≤60;rw[List.length_map];exact b2.2.2⟩,b3,ztr (fun w hw=>⟨(hf w).1,(hf w).2.1,(hf w).2.2.1,by rw[(hf w).2.2.2.1];exact hw,(hf w).2.2.2.2.1,(hf w).2.2.2.2.2⟩) b4,b5,?_,b7⟩
  show zmp (p.Stake.Waits.map _)=_
  rw[z6j (fun w=>(hf w).2.2.2.1)];exact b6
 have hlk:∀ j:Int,0≤j∧j < 2→LkX (zl1 p i (p.Stake.Waits.map (zdh i p.Height)) (zt6 p)) j:=by
  intro j hj
  obtain ⟨a1,a2,a3,a4,a5,a6⟩:=hx.lk hj
  have el:=zk9 (L:=p.Links) (H:=p.Height) (T:=p.Set) (f:=zt6 p) hi hj
  by_cases e:j=i
  ·rw[if_pos e] at el
   have z:=hx.2.1.1
   exact ⟨by show ¬ ((ze (zgx p.Links i p.Height p.Set (zt6 p)) j).On=true∧(ze (zgx p.Links i p.Height p.Set (zt6 p)) j).Gone=true);rw[el];simp,by show 0≤(ze (zgx p.Links i p.Height p.Set (zt6 p)) j).Base;rw[el];exact z,
    by show (ze (zgx p.Links i p.Height p.Set (zt6 p)) j).Base≤p.Height;rw[el];exact Int.le_refl _,by show zx 1 (-1) (ze (zgx p.Links i p.Height p.Set (zt6 p)) j).Told=true;rw[el];exact hx.2.2.1,
    by show zd1 (ze (zgx p.Links i p.Height p.Set (zt6 p)) j).Out;rw[el];exact z1w,by show zam (-1) (ze (zgx p.Links i p.Height p.Set (zt6 p)) j).Done=true;rw[el];rfl⟩
  ·rw[if_neg e] at el
   exact ⟨by show ¬ ((ze (zgx p.Links i p.Height p.Set (zt6 p)) j).On=true∧(ze (zgx p.Links i p.Height p.Set (zt6 p)) j).Gone=true);rw[el];exact a1,by show 0≤(ze (zgx p.Links i p.Height p.Set (zt6 p)) j).Base;rw[el];exact a2,
    by show (ze (zgx p.Links i p.Height p.Set (zt6 p)) j).Base≤p.Height;rw[el];exact a3,by show zx 1 (-1) (ze (zgx p.Links i p.Height p.Set (zt6 p)) j).Told=true;rw[el];exact a4,
    by show zd1 (ze (zgx p.Links i p.Height p.Set (zt6 p)) j).Out;rw[el];exact a5,by show zam (-1) (ze (zgx p.Links i p.Height p.Set (zt6 p)) j).Done=true;rw[el];exact a6⟩
 refine ⟨gs,hx.2.1,hx.2.2.1,okLk_iff.2 (hlk 0 (by omega)),okLk_iff.2 (hlk 1 (by omega)),List.all_eq_true.2 fun b hb=>ask_iff.2 ?_⟩
 obtain ⟨q1,q2,q3,q4⟩:=hx.ask hb
 refine ⟨q1,?_,q3,q4⟩
 show (p.Links.On.set i true).get b.C=true
 rw[zak _ _ hi q1]
 split
 ·rfl
 ·exact q2
theorem zaij {w:Wld} (h:OkW w) (hd:w.deeds < 600) (i:Int):OkW (zza (zav w) i).1:=by
 unfold zza
 by_cases h0:(zdr w.p i).2=0
 ·rw[if_neg (by show ¬ (zdr w.p i).2≠0;simpa using h0)]
  obtain ⟨f1,hi,f3,f4,f5,f6,f7⟩:=zvx h0
  have hgb:=zae2 h.p hi f4
  have hp:=h.ph;have hq:=h.pq;have d0:=h.d0;have d1:=h.d1
  have e6:(zdr (zav w).p i).1=zl1 w.p i (w.p.Stake.Waits.map (zdh i w.p.Height)) (zt6 w.p):=f7
  simp only[e6]
  refine z18 (i:=i) h hd rfl rfl hgb (by show w.p.Height≤_;omega) h.pt (by show ((w.p.Queue.length:Nat):Int)≤_;omega) ?_ fun j hj hji=>⟨zc2 hi hj hji _,.of ?_⟩
  ·have hci:zb (zla (zav w).consumers i (zlz w.p.Set w.p.Height w.clock)) i=zlz w.p.Set w.p.Height w.clock:=zec hi _
   have el:=zk9 (L:=w.p.Links) (H:=w.p.Height) (T:=w.p.Set) (f:=zt6 w.p) hi hi
   rw[if_pos rfl] at el
   have t0:=h.t0;have t1:=h.t1;have z:=h.p.2.1.1
   refine ⟨?_,?_,?_,?_,?_,?_,?_,?_,fun k=>?_⟩
   ·show zin (zb (zla (zav w).consumers i (zlz w.p.Set w.p.Height w.clock)) i)=true
    rw[hci]
    exact zoq ⟨rfl,by show (0:Int)≤0;omega,by show (0:Int) < _;omega,t0,by show w.clock≤_;omega,z,by show w.p.Height≤_;omega⟩ z1w h.p.2.2.1 rfl rfl
   ·show (zb (zla (zav w).consumers i (zlz w.p.Set w.p.Height w.clock)) i).Height≤w.deeds+1
    rw[hci];show (0:Int)≤_;omega
   ·show (zb (zla (zav w).consumers i (zlz w.p.Set w.p.Height w.clock)) i).Time≤w.clock
    rw[hci];exact Int.le_refl _
   ·show (((zb (zla (zav w).consumers i (zlz w.p.Set w.p.Height w.clock)) i).Pending.length+(zb (zla (zav w).consumers i (zlz w.p.Set w.p.Height w.clock)) i).Ripes.length:Nat):Int)≤w.deeds+1
    rw[hci];show ((0:Nat):Int)≤_;omega
   ·show (zb (zla (zav w).consumers i (zlz w.p.Set w.p.Height w.clock)) i).On=(ze (zgx w.p.Links i w.p.Height w.p.Set (zt6 w.p)) i).On
    rw[hci,el];rfl
   ·show (zb (zla (zav w).consumers i (zlz w.p.Set w.p.Height w.clock)) i).Gone=(ze (zgx w.p.Links i w.p.Height w.p.Set (zt6 w.p)) i).Gone
    rw[hci,el];rfl
   ·show ∀ s,s∈(ze (zgx w.p.Links i w.p.Height w.p.Set (zt6 w.p)) i).Out.Said→Pk1 s
    rw[el];intro s hs;cases hs
   ·show ∀ s,s∈(zb (zla (zav w).consumers i (zlz w.p.Set w.p.Height w.clock)) i).Out.Said→PkB s
    rw[hci];intro s hs;cases hs
   ·have k':(ze (zgx w.p.Links i w.p.Height w.p.Set (zt6 w.p)) i).On=false:=k
    rw[el] at k';cases k'
  ·show ze (zgx w.p.Links i w.p.Height w.p.Set (zt6 w.p)) j=_
   rw[zk9 hi hj,if_neg hji]
 ·rw[if_pos (by exact h0)];exact zjj h hd
theorem zpn {L:Links} {i j:Int} (hi:0≤i∧i < 2) (hj:0≤j∧j < 2):ze (ztt L i) j=if j=i then { ze L j with On:=false,Gone:=true,Fresh:=false,Done:=[],Out:={ (ze L j).Out with Closed:=true } } else ze L j:=by
 unfold ze ztt
 simp only[zak _ _ hi hj]
 by_cases e:j=i
 ·simp only[if_pos e]
 ·simp only[if_neg e]
theorem z83 {w:Wld} (h:OkW w) {i:Int} (hi:0≤i∧i < 2) (ho:(zb w.consumers i).On=true):zrl w.p i=zrk w.p i∧zvt (zb w.consumers i)={ zb w.consumers i with On:=false,Gone:=true,Out:={ (zb w.consumers i).Out with Closed:=true } }:=by
 have on':w.p.Links.On.get i=true:=by rw[← (h.c i hi).on];exact ho
 exact ⟨by unfold zrl;rw[if_pos ⟨h.pr,hi,on'⟩],by unfold zvt;rw[if_neg (by rw[ho];simp)]⟩
theorem zae3 {w:Wld} (h:OkW w) (hd:w.deeds < 600) {d:Deed} (hi:0≤d.C∧d.C < 2) (ho:(zb w.consumers d.C).On=true):OkW (ztg (zav w) d).1:=by
 unfold ztg
 by_cases h0:(z6r w d).2=0
 ·rw[if_neg (by show ¬ (z6r w d).2≠0;simpa using h0)]
  obtain ⟨f1,f2⟩:=z83 h hi ho
  have hw:=h.c d.C hi
  have e1:zrl (zav w).p d.C=zrk w.p d.C:=f1
  have e2:zvt (zb (zav w).consumers d.C)={ zb w.consumers d.C with On:=false,Gone:=true,Out:={ (zb w.consumers d.C).Out with Closed:=true } }:=f2
  simp only[e1,e2]
  obtain ⟨g1,g2,g3,g4,g5⟩:=zbt hw.good
  have hz:=hw.size;have hh:=hw.height;have hp:=h.ph;have hq:=h.pq
  have hqf:(w.p.Queue.filter (zzq d.C)).length≤w.p.Queue.length:=List.length_filter_le _ _
  have el:=zpn (L:=w.p.Links) hi hi
  rw[if_pos rfl] at el
  refine z18 (i:=d.C) h hd rfl rfl (goodPr_iff.1 (z8y h.pr hi)).1 (by show w.p.Height≤_;omega) h.pt (by show (((w.p.Queue.filter (zzq d.C)).length:Nat):Int)≤_;omega) ?_ fun j hj hji=>⟨zc2 hi hj hji _,.of ?_⟩
  ·have hci:=zec (C:=(zav w).consumers) hi { zb w.consumers d.C with On:=false,Gone:=true,Out:={ (zb w.consumers d.C).Out with Closed:=true } }
   refine ⟨?_,?_,?_,?_,?_,?_,?_,?_,fun k k2=>?_⟩
   ·rw[hci];exact zoq ⟨rfl,g1.2⟩ g2 g3 g4 g5
   ·rw[hci];show (zb w.consumers d.C).Height≤w.deeds+1;omega
   ·rw[hci];exact hw.time
   ·rw[hci];show (((zb w.consumers d.C).Pending.length+(zb w.consumers d.C).Ripes.length:Nat):Int)≤w.deeds+1;omega
   ·rw[hci];exact (congrArg Link.On el).symm
   ·rw[hci];exact (congrArg Link.Gone el).symm
   ·show ∀ s,s∈(ze (ztt w.p.Links d.C) d.C).Out.Said→Pk1 s
    rw[el];exact hw.told
   ·rw[hci];exact hw.said
   ·have k':(ze (ztt w.p.Links d.C) d.C).Gone=false:=k2
    rw[el] at k';cases k'
  ·show ze (ztt w.p.Links d.C) j=_
   rw[zpn hi hj,if_neg hji]
 ·rw[if_pos (by exact h0)];exact zjj h hd
theorem zabd {w:Wld} (h:OkW w) (hd:w.deeds < 600) (d:Deed):OkW (zot (zav w) d).1:=by
 have hm:=zjj h hd
 unfold zot
 by_cases c1:d.Kind < 4∨12 < d.Kind
 ·rw[if_pos c1];exact hm
 rw[if_neg c1]
 by_cases c2:d.C < 0∨2≤d.C
 ·rw[if_pos c2];exact hm
 rw[if_neg c2]
 have hi:0≤d.C∧d.C < 2:=by omega
 by_cases c3:d.Kind≠4∧(zav w).consumers.On.get d.C=false
 ·rw[if_pos c3];exact hm
 rw[if_neg c3]
 by_cases c4:d.Kind=4
 ·rw[if_pos c4];exact zaij h hd _
 rw[if_neg c4]
 have ho:(zb w.consumers d.C).On=true:=by
  cases e:(zb w.consumers d.C).On with
  | true=>rfl
  | false=>exact absurd ⟨c4,e⟩ c3
 repeat' split
 ·exact zaba h hd hi ho
 ·exact zaii h hd hi ho _
 ·exact zabb h hd hi ho
 ·exact zae3 h hd hi ho
 ·exact zalm h hd hi ho _
 ·exact zaez h hd hi ho _ _
 ·exact hm
theorem zap1 {w:Wld} (h:OkW w) (hd:w.deeds < 600) (d:Deed):OkW (actW (zav w) d).1:=by
 have hm:=zjj h hd
 unfold actW
 repeat' split
 ·exact z82 hm _ _ _
 ·exact z3b hm _ _ _
 ·exact zaew hm _
 ·exact zalj hm _ _
 ·exact zalk hm _
 ·exact zabc h hd
 ·exact zabd h hd d
theorem z4k {w:Wld} (h:OkW w) (d:Deed):OkW (doW w d).1:=by
 unfold doW
 split
 ·exact h
 ·rename_i hd;exact zap1 h (by omega) d
theorem zaik:zom=some newW:=by
 rw[zom,zvn,Tr.rb zaem,Tr.rl];rfl
theorem zaln (w:Wld):zg3 w=some (w.clock,w):=by rw[zg3,zia,Tr.rl]
theorem ztx {l:List Power} (h:l.length*16≤140737488355328):zbr l=some l:=by
 rw[zbr,zph,Tr.rg (by rw[za3];omega),Tr.rl]
theorem zyk {l:List Int} (h:l.length*8≤140737488355328):zb0 l=some l:=by
 rw[zb0,znq,Tr.rg (by rw[znv];omega),Tr.rl]
theorem z84 {p:Packet} (h1:p.Set.length*16≤140737488355328) (h2:p.Done.length*8≤140737488355328):zew p=some p:=by
 rw[zew,zpi,ztx h1,zyk h2,Tr.rg (by rfl),Tr.rg (by rfl),Tr.rl];rfl
theorem z4l {l:zim} (h1:l.Said.length*16≤140737488355328) (h2:l.Due.length*8≤140737488355328):zbg l=some l:=by
 rw[zbg,znr,zyk h2,Tr.rg (by show (0+l.Said.length)*16≤_;omega),Tr.rg (by rfl),Tr.rl];rfl
theorem z85 {w:Wld} (hf:FitPr 140737488351232 w.p):zcy w=some (w.p,w):=by
 have hw:=hf.waits;have hs:=hf.set;have hq:=hf.queue
 have turn:∀ (c:Nat),c < 2→∀ z,(zap (c:Int) w z w.p).run=some (.inl (((c+1:Nat):Int),w,z,w.p)):=by
  intro c hc z
  have e1:=ztx (l:=w.p.Links.Told.get c) (by have:=hf.told c;omega)
  have e2:=zyk (l:=w.p.Links.Done.get c) (by have:=hf.done c;omega)
  have e3:=z4l (l:=(ze w.p.Links c).Out) (by have:=hf.said c;show (w.p.Links.Said.get c).length*16≤_;omega) (by have:=hf.due c;show (w.p.Links.Due.get c).length*8≤_;omega)
  simp only[zap]
  rw[Tr.rt (by simp;omega),Tr.rg ⟨by omega,by omega⟩,e1,e2,e3,Tr.rg (by rfl),Tr.rg (by rfl),Tr.rg (by rfl),Tr.rl,zw (by omega)]
  simp only[yy2]
  have hb:0≤(c:Int)∧(c:Int) < 2:=by omega
  unfold ze
  simp only[znx _ hb]
 have l1:∀ z,zdo 0 w z w.p=some (w,z,w.p):=by
  intro z
  rw[zdo,zbs (s':=(((1:Nat):Int),w,z,w.p)) (turn 0 (by omega) z),zbs (s':=(((2:Nat):Int),w,z,w.p)) (turn 1 (by omega) z),zda (by
   show (zap 2 w z w.p).run=_
   simp only[zap]
   rw[Tr.rf (by simp),Tr.rl])]
 have l2:∀ z q,zdp w.p.Queue w.p.Queue.length 0 w z q []=some (w,z,q,w.p.Queue):=by
  intro z q
  rw[zdp]
  have:=zmo (F:=fun s:(List Asked)×Int×Int×Wld×za×za×(List Asked)=>(zbc s.1 s.2.1 s.2.2.1 s.2.2.2.1 s.2.2.2.2.1 s.2.2.2.2.2.1 s.2.2.2.2.2.2).run) w.p.Queue.length (fun i t=>(w.p.Queue,(w.p.Queue.length:Int),(i:Int),w,z,q,t)) (fun i t=>t=w.p.Queue.take i) (fun _ _=>(w,z,q,w.p.Queue)) ?_ ?_ 0 [] (Nat.zero_le _) rfl
  ·exact this
  ·rintro t rfl
   simp only[zbc];rw[Tr.rf (by simp),Tr.rl,List.take_length]
  ·rintro i t hi ht
   obtain ⟨p1,p2⟩:=hf.ps _ (zf0 (l:=w.p.Queue) (k:=i) hi default)
   have htl:t.length≤i:=by rw[ht,List.length_take];omega
   refine .inl ⟨t++[w.p.Queue.getD i default],?_,by rw[ht,zkc hi default],by trivial⟩
   simp only[zbc,yy4]
   rw[Tr.rt (by simpa using hi),Tr.rg ⟨by omega,by rw[ze4];omega⟩,z84 (by omega) (by omega),Tr.rg (by rfl),Tr.rg (by simp only[ze4,yy5];omega),Tr.rl,zw (by omega)]
   rfl
 rw[zcy,zfp,Tr.rg (by rw[za8];omega),Tr.rb (ztx (by omega)),Tr.rb (v:=(w,default,w.p)) (by exact l1 default)]
 simp only[]
 rw[Tr.rb (v:=(w,default,w.p,w.p.Queue)) (by exact l2 default w.p),Tr.rl]
theorem z86 {w:Wld} {i:Int} (hf:(0≤i∧i < 2)→FitC 140737488351232 (zb w.consumers i)):zal i w=some (if 0≤i∧i < 2 then zb w.consumers i else default,w):=by
 rw[zal,zfq]
 by_cases hi:0≤i∧i < 2
 ·have hf:=hf hi
  have e1:=ztx (l:=w.consumers.Set.get i) (by have:(w.consumers.Set.get i).length*16≤_:=hf.set;omega)
  have e3:=z4l (l:=(zb w.consumers i).Out) (by have:=hf.said;omega) (by have:=hf.due;omega)
  have hr:(w.consumers.Ripes.get i).length*16≤140737488351232:=hf.ripes
  have hp:(w.consumers.Pending.get i).length*80≤140737488351232:=hf.pend
  have l1:∀ z q,zdq (w.consumers.Pending.get i) (w.consumers.Pending.get i).length 0 w z q []=some (w,z,q,w.consumers.Pending.get i):=by
   intro z q
   have hps:∀ p,p∈w.consumers.Pending.get i→p.Set.length*16≤140737488351232∧p.Done.length*8≤140737488351232:=hf.ps
   generalize w.consumers.Pending.get i=l at *
   rw[zdq]
   have:=zmo (F:=fun s:(List Packet)×Int×Int×Wld×zc×zc×(List Packet)=>(zbd s.1 s.2.1 s.2.2.1 s.2.2.2.1 s.2.2.2.2.1 s.2.2.2.2.2.1 s.2.2.2.2.2.2).run) l.length (fun i t=>(l,(l.length:Int),(i:Int),w,z,q,t)) (fun i t=>t=l.take i) (fun _ _=>(w,z,q,l)) ?_ ?_ 0 [] (Nat.zero_le _) rfl
   ·exact this
   ·rintro t rfl
    simp only[zbd];rw[Tr.rf (by simp),Tr.rl,List.take_length]
   ·rintro k t hk ht
    obtain ⟨p1,p2⟩:=hps _ (zf0 (l:=l) (k:=k) hk default)
    have htl:t.length≤k:=by rw[ht,List.length_take];omega
    refine .inl ⟨t++[l.getD k default],?_,by rw[ht,zkc hk default],by trivial⟩
    simp only[zbd,yy4]
    rw[Tr.rt (by simpa using hk),Tr.rg ⟨by omega,by rw[zfo];omega⟩,Tr.rb (z84 (by omega) (by omega)),Tr.rg (by simp only[zfo,yy5];omega),Tr.rl,zw (by omega)]
  rw[if_pos hi,Tr.rf (by simp;omega),Tr.rg hi,e1,e3,Tr.rg (by rfl),Tr.rg (by rfl),Tr.rg (by rw[zk5];omega)]
  simp only[yy2]
  rw[Tr.rb (v:=(w,default,zb w.consumers i,w.consumers.Pending.get i)) (by exact l1 default _),Tr.rl]
  rfl
 ·rw[if_neg hi,Tr.rt (by simp;omega),Tr.rl]
theorem zae4 {w:Wld} (h:OkW w) {i:Int} (hi:0≤i∧i < 2) (b:Bool):(zaid (zdi w i b)).size≤71:=by
  have hw:=h.c i hi
  unfold zaid
  split
  · rename_i hg
    have hmem:(zdi w i b).Said.getD (zdi w i b).Got.toNat .empty∈(zdi w i b).Said:=by
      by_cases h0:(zdi w i b).Got.toNat < (zdi w i b).Said.length
      · exact zf0 h0 _
      · exact absurd hg (by
          cases b with
          | true =>
                    have:0≤(zb w.consumers i).Out.Got:=(zbt hw.good).2.1.2.2.1
                    show ¬ (zb w.consumers i).Out.Got < _
                    have h0':¬ (zb w.consumers i).Out.Got.toNat < (zb w.consumers i).Out.Said.length:=h0
                    show ¬ (zb w.consumers i).Out.Got < (((zb w.consumers i).Out.Said.length:Nat):Int)
                    omega
          | false =>
                     have:0≤(ze w.p.Links i).Out.Got:=(h.p.lk hi).line.2.2.1
                     have h0':¬ (ze w.p.Links i).Out.Got.toNat < (ze w.p.Links i).Out.Said.length:=h0
                     show ¬ (ze w.p.Links i).Out.Got < (((ze w.p.Links i).Out.Said.length:Nat):Int)
                     omega)
    generalize (zdi w i b).Said.getD (zdi w i b).Got.toNat .empty=s at hmem
    have:∃ q,zcz q=0∧s=txt (zn0 q):=by
      cases b with
      | true=>obtain ⟨q,q1,_,q2⟩:=hw.said s hmem;exact ⟨q,q1,q2⟩
      | false=>obtain ⟨q,q1,_,q2⟩:=hw.told s hmem;exact ⟨q,q1,q2⟩
    obtain ⟨q,q1,rfl⟩:=this
    have:=z11 q1
    rw[zxd,zvr];omega
  · decide
theorem zail {n:Nat} (h:n≤1000):zcz (zaic n)=0:=by
 have hw:i64.wrap (1+(n:Int))=1+n:=zl (by omega) (by omega)
 unfold zcz zaic
 rw[hw]
 simp only[]
 rw[if_neg (by omega),if_neg (by omega),if_neg (by simp),if_neg (by simp[zx]),if_neg (by simp[zam])]
theorem zap2 {w:Wld} (h:OkW w) {i:Int} (hi:0≤i∧i < 2) (b f:Bool):zmg (zdi w i b) f=some (zji (zdi w i b) f)∧(zji (zdi w i b) f).size≤71:=by
 have hz:=zae4 h hi b
 have hg0:0≤(zdi w i b).Got:=by
  cases b with
  | true=>exact (zbt (h.c i hi).good).2.1.2.2.1
  | false=>exact (h.p.lk hi).line.2.2.1
 have hE:∀ n:Nat,zba (⟨3,1,0,i64.wrap (1+(n:Int)),[],[]⟩:Packet)=some (zgh (zaic n)):=fun n=>z1h (by simp) (by simp)
 generalize zdi w i b=l at *
 have hsz:(zji l f).size≤71:=by
  unfold zji
  cases f with
  | true=>rw[if_pos rfl,zk6 (zail (by omega)),zxd,zvr];simp[zaic]
  | false=>rw[if_neg (by simp)];exact hz
 refine ⟨?_,hsz⟩
 rw[zmg,zs2]
 unfold zji
 unfold zaid at hz ⊢
 by_cases hl:l.Got < ((l.Said.length:Nat):Int)
 ·rw[if_pos hl,Tr.rt (by simpa using hl),Tr.rg ⟨hg0,by show l.Got < ((l.Said.length:Nat):Int);exact hl⟩]
  cases f with
  | true=>rw[Tr.rf (by rfl),if_pos rfl,Tr.rb (hE _),Tr.rl]
  | false=>rw[Tr.rt (by rfl),if_neg (by simp),Tr.rl]
 ·rw[if_neg hl,Tr.rf (by simpa using hl)]
  cases f with
  | true=>rw[Tr.rf (by rfl),if_pos rfl,Tr.rb (hE _),Tr.rl]
  | false=>rw[Tr.rt (by rfl),if_neg (by simp),Tr.rl]
theorem zae5 {w:Wld} (hf:FitPr 140737488351232 w.p):zfs w=some ((zjh w).2,(zjh w).1):=by
 rw[zfs,zgb,zaeo hf,Tr.rg (by rfl)]
 simp only[yy2]
 unfold zjh
 by_cases h0:(zgs w.p w.clock).2.2=0
 ·rw[Tr.rf (by simpa using h0),if_neg (by simpa using h0)]
  have turn:∀ (c:Nat),c < 2→∀ (u:Wld) l z (p:za),(zay l (c:Int) u z p).run=some (.inl (l,((c+1:Nat):Int),{ u with heads:={ u.heads with PHeight:=u.heads.PHeight.set c p.Height,PTime:=u.heads.PTime.set c p.Time,PSaid:=u.heads.PSaid.set c (((p.Links.Said.get c).length:Nat):Int),PGot:=u.heads.PGot.set c (u.consumers.Got.get c) } },z,p)):=by
   intro c hc u l z p
   simp only[zay]
   rw[Tr.rt (by simp;omega),Tr.rg ⟨by omega,by omega⟩,Tr.rg ⟨by omega,by omega⟩,Tr.rg ⟨by omega,by omega⟩,Tr.rg ⟨by omega,by omega⟩,Tr.rl,zw (by omega)]
  have loop:∀ l z,zea l 0 { w with p:=(zgs w.p w.clock).1 } z (zgs w.p w.clock).1=some (l,{ w with p:=(zgs w.p w.clock).1,heads:=zaib w.heads (zgs w.p w.clock).1 w.consumers },z):=by
   intro l z
   generalize (zgs w.p w.clock).1=p
   rw[zea,zbs (turn 0 (by omega) _ _ _ _),zbs (turn 1 (by omega) _ _ _ _),zda (by
    show (zay _ 2 _ _ _).run=_
    simp only[zay]
    rw[Tr.rf (by simp),Tr.rl])]
   rfl
  rw[Tr.rb (v:=((zgs w.p w.clock).2.1,{ w with p:=(zgs w.p w.clock).1,heads:=zaib w.heads (zgs w.p w.clock).1 w.consumers },⟨0,0⟩)) (by exact loop _ _),Tr.rl]
 ·rw[Tr.rt (by simpa using h0),if_pos h0,Tr.rl];rfl
theorem zabe {C:zcv} {i:Int} (hi:0≤i∧i < 2) (l:zim):({ C with Said:=C.Said.set i l.Said,Due:=C.Due.set i l.Due,Got:=C.Got.set i l.Got,Closed:=C.Closed.set i l.Closed }:zcv)=zla C i { zb C i with Out:=l }:=by
 unfold zla zb
 simp only[znx _ hi]
theorem zae6 {w:Wld} (h:OkW w) {d:Deed} (hi:0≤d.C∧d.C < 2):zft d w=some ((zos w d).2,(zos w d).1):=by
 rw[zft,zgc,Tr.rg hi,Tr.rg hi]
 obtain ⟨t1,t2⟩:=zap2 h hi d.Back d.Forged
 unfold zos zlp
 cases hb:d.Back with
 | true =>
  rw[hb] at t1 t2
  have e0:(zb w.consumers d.C).Out=zdi w d.C true:=rfl
  have e1:w.consumers.Got.get d.C=(zdi w d.C true).Got:=rfl
  rw[Tr.rt rfl,e0,Tr.rb t1,e1,z3z,Tr.rg (by rfl)]
  simp only[yy2]
  have es:z6q w d.C true=w.p.Links.SSaid.get d.C:=rfl
  rw[← es]
  by_cases h0:(zmh (zdi w d.C true) (i64.wrap ((zdi w d.C true).Got+1)) (zji (zdi w d.C true) d.Forged) (z6q w d.C true) w.clock).2=0
  ·rw[Tr.rf (by simpa using h0),if_neg (by simpa using h0),Tr.rt rfl,if_pos trivial,zaa4 h.fit (by omega),Tr.rg (by rfl)]
   simp only[yy2]
   by_cases h1:(zl0 w.p d.C (zji (zdi w d.C true) d.Forged).data.toList).2=0
   ·rw[Tr.rf (by simpa using h1),if_neg (by simpa using h1),Tr.rl,zabe hi]
   ·rw[Tr.rt (by simpa using h1),if_pos h1,Tr.rl];rfl
  ·rw[Tr.rt (by simpa using h0),if_pos h0,Tr.rl];rfl
 | false =>
  rw[hb] at t1 t2
  have e0:(ze w.p.Links d.C).Out=zdi w d.C false:=rfl
  have e1:w.p.Links.Got.get d.C=(zdi w d.C false).Got:=rfl
  rw[Tr.rf rfl,e0,Tr.rb t1,e1,z3z,Tr.rg (by rfl)]
  simp only[yy2]
  have es:z6q w d.C false=w.consumers.SSaid.get d.C:=rfl
  rw[← es]
  by_cases h0:(zmh (zdi w d.C false) (i64.wrap ((zdi w d.C false).Got+1)) (zji (zdi w d.C false) d.Forged) (z6q w d.C false) w.clock).2=0
  ·rw[Tr.rf (by simpa using h0),if_neg (by simpa using h0),Tr.rf rfl,if_neg (by simp),Tr.rb (zapq ((h.c d.C hi).fit h.d1) (by omega))]
   by_cases h1:(ztd (zb w.consumers d.C) (zji (zdi w d.C false) d.Forged).data.toList).2=0
   ·rw[Tr.rf (by simpa using h1),if_neg (by simpa using h1),Tr.rl];rfl
   ·rw[Tr.rt (by simpa using h1),if_pos h1,Tr.rl];rfl
  ·rw[Tr.rt (by simpa using h0),if_pos h0,Tr.rl];rfl
theorem zaim {w:Wld} (h:OkW w) {d:Deed} (hi:0≤d.C∧d.C < 2):zgd d w=some ((ztg w d).2,(ztg w d).1):=by
 rw[zgd,zg4,Tr.rg hi,Tr.rg hi]
 have hr:=z6p h.fit (c:=d.C)
 unfold ztg z6r
 cases hb:d.Back with
 | true =>
  rw[Tr.rt rfl,if_pos rfl,Tr.rb (z76 _ _ _ _)]
  by_cases h0:(zx8 (zb w.consumers d.C).Out d.N (w.consumers.STime.get d.C) (w.consumers.SGot.get d.C)).2=0
  ·rw[Tr.rf (by simpa using h0),if_neg (by simpa using h0),hr,Tr.rg (by rfl),Tr.rb z8o,Tr.rl];rfl
  ·rw[Tr.rt (by simpa using h0),if_pos h0,Tr.rl];rfl
 | false =>
  rw[Tr.rf rfl,if_neg (show ¬ (false=true) by simp),Tr.rb (z76 _ _ _ _)]
  by_cases h0:(zx8 (ze w.p.Links d.C).Out d.N (w.p.Links.STime.get d.C) (w.p.Links.SGot.get d.C)).2=0
  ·rw[Tr.rf (by simpa using h0),if_neg (by simpa using h0),hr,Tr.rg (by rfl),Tr.rb z8o,Tr.rl];rfl
  ·rw[Tr.rt (by simpa using h0),if_pos h0,Tr.rl];rfl
theorem zae7 {w:Wld} (h:OkW w) {d:Deed}:zfu d w=some ((zot w d).2,(zot w d).1):=by
 rw[zfu,zge]
 unfold zot
 by_cases c1:d.Kind < 4∨12 < d.Kind
 ·rw[if_pos c1,Tr.rt (by simpa using c1),Tr.rl];rfl
 rw[if_neg c1,Tr.rf (by simp;omega)]
 by_cases c2:d.C < 0∨2≤d.C
 ·rw[if_pos c2,Tr.rt (by simpa using c2),Tr.rl];rfl
 have hi:0≤d.C∧d.C < 2:=by omega
 have hw:=h.c d.C hi
 have hfc:=hw.fit h.d1
 rw[if_neg c2,Tr.rf (by simp;omega),Tr.rg hi]
 by_cases c3:d.Kind≠4∧w.consumers.On.get d.C=false
 ·rw[if_pos c3,Tr.rt (by simpa using c3),Tr.rl];rfl
 rw[if_neg c3,Tr.rf (by
  rw[Bool.eq_false_iff];intro k;apply c3;simpa using k)]
 by_cases c4:d.Kind=4
 ·rw[if_pos c4,Tr.rt (by simpa using c4),z8v h.fit,Tr.rg (by rfl)]
  simp only[yy2]
  unfold zza
  by_cases h0:(zdr w.p d.C).2=0
  ·obtain ⟨f1,_,f3,f4,f5,f6,f7⟩:=zvx h0
   have hs:(zdr w.p d.C).1.Set.length*16≤140737488355328:=by rw[f7];have:=h.fit.set;show w.p.Set.length*16≤_;omega
   rw[Tr.rf (by simpa using h0),if_neg (by simpa using h0),zak3 hs,Tr.rg (by rfl),Tr.rg hi,Tr.rl]
   rfl
  ·rw[Tr.rt (by simpa using h0),if_pos h0,Tr.rl];rfl
 rw[if_neg c4,Tr.rf (by simpa using c4)]
 have hsz:=hw.size;have hd1:=h.d1
 by_cases c7:d.Kind=7
 ·have he:zv (zb w.consumers d.C) w.clock=some (zxh w.clock (zb w.consumers d.C)):=zat9 hfc (by omega)
  rw[if_pos c7,Tr.rt (by simpa using c7),he,Tr.rg (by rfl)]
  simp only[yy2]
  unfold ztv
  by_cases h0:(zxh w.clock (zb w.consumers d.C)).2=0
  ·rw[Tr.rt (by simpa using h0),Tr.rg hi,Tr.rg hi,Tr.rg (by omega),Tr.rf (by simpa using h0),if_neg (by simpa using h0),Tr.rl];rfl
  ·rw[Tr.rf (by simpa using h0),Tr.rt (by simpa using h0),if_pos h0,Tr.rl];rfl
 rw[if_neg c7,Tr.rf (by simpa using c7)]
 by_cases c8:d.Kind=8
 ·rw[if_pos c8,Tr.rt (by simpa using c8)]
  unfold z4h
  cases hb:d.Back with
  | true =>
   rw[Tr.rt rfl,if_pos rfl,Tr.rg hi,Tr.rg (by omega),Tr.rg hi,Tr.rf rfl,Tr.rl,z81 hi];rfl
  | false =>
   rw[Tr.rf rfl,if_neg (show ¬ (false=true) by simp),Tr.rg hi,Tr.rg (by omega),Tr.rf rfl,Tr.rl];rfl
 rw[if_neg c8,Tr.rf (by simpa using c8)]
 by_cases c9:d.Kind=9
 ·rw[if_pos c9,Tr.rt (by simpa using c9),Tr.rb (zae6 h hi),Tr.rl]
 rw[if_neg c9,Tr.rf (by simpa using c9)]
 by_cases c10:d.Kind=10
 ·rw[if_pos c10,Tr.rt (by simpa using c10),Tr.rb (zaim h hi),Tr.rl]
 rw[if_neg c10,Tr.rf (by simpa using c10)]
 by_cases c11:d.Kind=11
 ·rw[if_pos c11,Tr.rt (by simpa using c11),zapr hfc,Tr.rg (by rfl)]
  simp only[yy2]
  unfold putW
  by_cases h0:(z1v (zb w.consumers d.C) d.V w.clock).2=0
  ·rw[Tr.rf (by simpa using h0),if_neg (by simpa using h0),Tr.rl]
  ·rw[Tr.rt (by simpa using h0),if_pos h0,Tr.rl];rfl
 rw[if_neg c11,Tr.rf (by simpa using c11)]
 by_cases c12:d.Kind=12
 ·rw[if_pos c12,Tr.rt (by simpa using c12),zaht hfc,Tr.rg (by rfl)]
  simp only[yy2]
  unfold putW
  by_cases h0:(zpl (zb w.consumers d.C) d.V d.N w.clock).2=0
  ·rw[Tr.rf (by simpa using h0),if_neg (by simpa using h0),Tr.rl]
  ·rw[Tr.rt (by simpa using h0),if_pos h0,Tr.rl];rfl
 rw[if_neg c12,Tr.rf (by simpa using c12),Tr.rf rfl,Tr.rl,z81 hi]
theorem zain {w:Wld} (h:OkW w) {d:Deed} (hn:d.N≤9223372036854775807):zb7 d w=some ((doW w d).2,(doW w d).1):=by
 rw[zb7,zln]
 unfold doW
 by_cases c0:600≤w.deeds
 ·rw[if_pos c0,Tr.rt (by simpa using c0),Tr.rl];rfl
 have hd:w.deeds < 600:=by omega
 have hd0:=h.d0
 have hw:i64.wrap (w.deeds+1)=w.deeds+1:=zl (by omega) (by omega)
 have hm:=zjj h hd
 rw[if_neg c0,Tr.rf (by simpa using c0),hw]
 have e0:({ w with deeds:=w.deeds+1 }:Wld)=zav w:=rfl
 unfold actW
 by_cases c1:d.Kind=1
 ·rw[if_pos c1,Tr.rt (by simpa using c1),Tr.rb (z1x h.fit hn)]
  unfold zpm
  by_cases h0:(zcr w.p d.D d.V d.N).2=0
  ·rw[Tr.rf (by simpa using h0),if_neg (by show ¬ (zcr w.p d.D d.V d.N).2≠0;simpa using h0),Tr.rl];rfl
  ·rw[Tr.rt (by simpa using h0),if_pos (by exact h0),Tr.rl];rfl
 rw[if_neg c1,Tr.rf (by simpa using c1)]
 by_cases c2:d.Kind=2
 ·rw[if_pos c2,Tr.rt (by simpa using c2),zyg h.fit hn,Tr.rg (by rfl)]
  simp only[yy2]
  unfold zpm
  by_cases h0:(zcl w.p d.D d.V d.N w.clock).2=0
  ·rw[Tr.rf (by simpa using h0),if_neg (by show ¬ (zcl w.p d.D d.V d.N w.clock).2≠0;simpa using h0),Tr.rl];rfl
  ·rw[Tr.rt (by simpa using h0),if_pos (by exact h0),Tr.rl];rfl
 rw[if_neg c2,Tr.rf (by simpa using c2)]
 by_cases c3:d.Kind=3
 ·rw[if_pos c3,Tr.rt (by simpa using c3),Tr.rb zahh]
  unfold zpm
  by_cases h0:(za1 w.p.Stake d.V 1).2=0
  ·rw[Tr.rf (by simpa using h0),if_neg (by show ¬ (za1 w.p.Stake d.V 1).2≠0;simpa using h0),Tr.rl];rfl
  ·rw[Tr.rt (by simpa using h0),if_pos (by exact h0),Tr.rl];rfl
 rw[if_neg c3,Tr.rf (by simpa using c3)]
 by_cases c13:d.Kind=13
 ·rw[if_pos c13,Tr.rt (by simpa using c13),Tr.rb (z10 h.fit)]
  unfold zpm
  by_cases h0:(ztf w.p d.V d.N).2=0
  ·rw[Tr.rf (by simpa using h0),if_neg (by show ¬ (ztf w.p d.V d.N).2≠0;simpa using h0),Tr.rl];rfl
  ·rw[Tr.rt (by simpa using h0),if_pos (by exact h0),Tr.rl];rfl
 rw[if_neg c13,Tr.rf (by simpa using c13)]
 by_cases c5:d.Kind=5
 ·rw[if_pos c5,Tr.rt (by simpa using c5)]
  have t0:=h.t0;have t1:=h.t1
  have h1:i64.wrap (1099511627736 - w.clock)=1099511627736 - w.clock:=zl (by omega) (by omega)
  rw[h1]
  unfold zaev
  by_cases h0:d.N < 1∨1099511627736 - w.clock < d.N
  ·rw[Tr.rt (by simpa using h0),if_pos (by exact h0),Tr.rl];rfl
  ·have h2:i64.wrap (w.clock+d.N)=w.clock+d.N:=zl (by omega) (by omega)
   rw[Tr.rf (by simp;omega),if_neg (by exact h0),Tr.rl,h2];rfl
 rw[if_neg c5,Tr.rf (by simpa using c5)]
 by_cases c6:d.Kind=6
 ·rw[if_pos c6,Tr.rt (by simpa using c6),e0,Tr.rb (zae5 hm.fit),Tr.rl]
 rw[if_neg c6,Tr.rf (by simpa using c6),e0,Tr.rb (zae7 hm),Tr.rl]
def stk7:Stake:=⟨⟨⟨99300,100000,100000,100000⟩,700,0,0⟩,{ zat6 with Tokens:=⟨700,0,0,0,0,0⟩,Shares:=⟨700,0,0,0,0,0⟩ },⟨⟨700,0,0,0,0,0⟩,⟨0,0,0,0,0,0⟩,⟨0,0,0,0,0,0⟩,⟨0,0,0,0,0,0⟩⟩,[],1⟩
theorem zaio:GoodS stk7:=by decide
theorem z87:zaz newS 0 0 700=(stk7,0):=by
 have h:ze2 newS 0 0=0:=by
  unfold ze2
  rw[if_neg (by simpa using zaho),if_neg (by omega)]
 unfold zaz
 rw[if_neg (by simpa using h),if_neg (by decide),if_neg (by omega),if_neg (by decide),if_neg (by decide),if_neg (by decide),if_neg (by decide)]
 rfl
theorem zaip:setS stk7=[⟨0,7⟩]:=by rfl
def p7:za:={ z8r with Stake:=stk7 }
def p8:za:=⟨1,5,stk7,[⟨0,7⟩],default,zael (newM 0 0) (allP []) 5,[]⟩
theorem zap3:z8 p7=true:=by decide
theorem zap4:z8 p8=true:=by decide
theorem zabf:zcr z8r 0 0 700=(p7,0):=by
 unfold zcr
 rw[if_pos z4d]
 show (if (zaz newS 0 0 700).2≠0 then _ else (({ z8r with Stake:=(zaz newS 0 0 700).1 }:za),(0:Int)))=_
 rw[z87];rfl
theorem zauh:zgs p7 5=(p8,[],0):=by
 have hpay:z3a stk7 5=(stk7,[],0):=by unfold z3a;rw[if_neg (by simpa using zaio)];rfl
 unfold zgs
 rw[if_pos ⟨zap3,by decide,by decide⟩]
 have hp:zml p7 5=p8:=by
  unfold zml
  show ({ zny p7 5 with Stake:=(z3a stk7 5).1,Set:=setS (z3a stk7 5).1,Queue:=[] }:za)=_
  rw[hpay,zaip];rfl
 rw[hp,zac5 (p:=p8) (c:=0) rfl,zac5 (p:=p8) (c:=1) rfl]
 show (p8,(z3a stk7 5).2.1,(0:Int))=_
 rw[hpay]
def w1:Wld:=⟨0,p7,default,default,1⟩
def w2:Wld:=⟨5,p7,default,default,2⟩
def w3:Wld:=⟨5,p8,default,zaib default p8 default,3⟩
theorem do_1:doW newW ⟨1,0,0,0,700,false,false⟩=(w1,⟨0,0⟩):=by
 show zpm (zav newW) (zcr z8r 0 0 700)=_
 rw[zabf];rfl
theorem do_2:doW w1 ⟨5,0,0,0,5,false,false⟩=(w2,⟨0,5⟩):=by rfl
theorem do_3:doW w2 ⟨6,0,0,0,0,false,false⟩=(w3,⟨0,0⟩):=by
 show zjh (zav w2)=_
 unfold zjh
 have e:zgs (zav w2).p (zav w2).clock=(p8,[],0):=zauh
 rw[e];rfl
theorem do_4:(doW w3 ⟨4,0,0,0,0,false,false⟩).2.N=1∧(doW w3 ⟨4,0,0,0,0,false,false⟩).1.clock=5∧(zb (doW w3 ⟨4,0,0,0,0,false,false⟩).1.consumers 0).Set=[⟨0,7⟩]:=by
 have hb:zdr p8 0=(zl1 p8 0 (p8.Stake.Waits.map (zdh 0 p8.Height)) (zt6 p8),0):=by
  unfold zdr
  rw[if_neg (by rw[zap4];simp),if_pos (by omega),if_neg (by decide),if_neg (by decide),if_neg (by decide)]
 have e:doW w3 ⟨4,0,0,0,0,false,false⟩=zza (zav w3) 0:=rfl
 rw[e]
 unfold zza
 have e2:zdr (zav w3).p 0=(zl1 p8 0 (p8.Stake.Waits.map (zdh 0 p8.Height)) (zt6 p8),0):=hb
 rw[e2]
 exact ⟨rfl,rfl,rfl⟩
theorem okW1:OkW w1:=by have:=z4k zaa8 ⟨1,0,0,0,700,false,false⟩;rw[do_1] at this;exact this
theorem okW2:OkW w2:=by have:=z4k okW1 ⟨5,0,0,0,5,false,false⟩;rw[do_2] at this;exact this
theorem okW3:OkW w3:=by have:=z4k okW2 ⟨6,0,0,0,0,false,false⟩;rw[do_3] at this;exact this
theorem okW4:OkW (doW w3 ⟨4,0,0,0,0,false,false⟩).1:=z4k okW3 _
structure Alike (w w':Wld):Prop where
 p:w'.p=w.p
 c:w'.consumers=w.consumers
 t:w'.clock=w.clock
theorem Alike.refl (w:Wld):Alike w w:=⟨rfl,rfl,rfl⟩
theorem Alike.more (w:Wld):Alike w (zav w):=⟨rfl,rfl,rfl⟩
def zaiq (w:Wld) (s:Stake):Wld:={ zav w with p:={ w.p with Stake:=s } }
def zaui (w:Wld) (s:Stake):Wld:={ zav w with p:={ w.p with Stake:=s,Links:=z8s w.p.Links } }
def zaz8 (w:Wld) (n:Int):Wld:={ zav w with clock:=w.clock+n }
def zxn (w:Wld):Wld:={ zav w with p:=(zgs w.p w.clock).1,heads:=zaib w.heads (zgs w.p w.clock).1 w.consumers }
def zabg (w:Wld) (i:Int):Wld:={ zav w with p:=zl1 w.p i (w.p.Stake.Waits.map (zdh i w.p.Height)) (zt6 w.p),consumers:=zla w.consumers i (zlz w.p.Set w.p.Height w.clock),heads:=zamw w.heads i }
def z88 (w:Wld) (i:Int) (c:zc):Wld:={ zav w with consumers:=zla w.consumers i c }
def zauj (w:Wld) (i:Int):Wld:={ zav w with p:={ w.p with Links:=zyj w.p.Links i (zapx w.heads i) } }
def zn5 (w:Wld) (i:Int):Wld:={ z88 w i (zxh w.clock (zb w.consumers i)).1 with heads:=zaug w.heads i (zxh w.clock (zb w.consumers i)).1 (w.p.Links.Got.get i) }
def gotB (w:Wld) (i:Int) (q:Packet):Wld:={ z88 w i { zb w.consumers i with Out:={ (zb w.consumers i).Out with Got:=(zb w.consumers i).Out.Got+1 } } with p:={ w.p with Queue:=w.p.Queue++[⟨i,q⟩] } }
def gotF (w:Wld) (i:Int) (q:Packet):Wld:={ z88 w i { zb w.consumers i with Pending:=(zb w.consumers i).Pending++[q] } with p:={ w.p with Links:=zy8 w.p.Links i { (ze w.p.Links i).Out with Got:=(ze w.p.Links i).Out.Got+1 } } }
def zae8 (w:Wld) (i:Int):Wld:={ z88 w i { zb w.consumers i with On:=false,Gone:=true,Out:={ (zb w.consumers i).Out with Closed:=true } } with p:=zrk w.p i }
def zap5 (w:Wld) (i:Int) (q:Packet) (f:A6 Bool):zc:={ zb w.consumers i with Out:={ (zb w.consumers i).Out with Said:=(zb w.consumers i).Out.Said++[txt (zn0 q)],Due:=(zb w.consumers i).Out.Due++[w.clock+40] },Flags:=f }
structure zap6 (w:Wld) (i:Int) (b:Bool) (q:Packet):Prop where
 good:zd1 (zdi w i b)
 opened:(zdi w i b).Closed=false
 got:(zdi w i b).Got.toNat < (zdi w i b).Said.length
 seen:(zdi w i b).Got+1≤z6q w i b
 text:(zdi w i b).Said.getD (zdi w i b).Got.toNat .empty=txt (zn0 q)
 time:w.clock < (zdi w i b).Due.getD (zdi w i b).Got.toNat 0
 pk:zcz q=0
theorem zxo {w:Wld} (h:OkW w) (hd:w.deeds < 600) (d:Deed) {P:Wld→Reply→Prop}
  (hno:∀ w' r,Alike w w'→r.Code≠0→P w' r)
  (hdel:d.Kind=1→(zaz w.p.Stake d.D d.V d.N).2=0→P (zaiq w (zaz w.p.Stake d.D d.V d.N).1) ⟨0,0⟩)
  (hund:d.Kind=2→(zaq w.p.Stake d.D d.V d.N (z1y w.p w.clock)).2=0→P (zaui w (zaq w.p.Stake d.D d.V d.N (z1y w.p w.clock)).1) ⟨0,0⟩)
  (hunj:d.Kind=3→(za1 w.p.Stake d.V 1).2=0→P (zaiq w (za1 w.p.Stake d.V 1).1) ⟨0,0⟩)
  (hevi:d.Kind=13→(0≤d.V∧d.V < 6)→(1≤d.N∧d.N≤w.p.Height)→w.p.Stake.Validators.Dead.get d.V=false→P (zaiq w (za1 (zex w.p.Stake d.V d.N 50).1 d.V 2).1) ⟨0,0⟩)
  (htick:d.Kind=5→1≤d.N→d.N≤1099511627736 - w.clock→P (zaz8 w d.N) ⟨0,w.clock+d.N⟩)
  (hprov:d.Kind=6→P (zxn w) ⟨0,(((zgs w.p w.clock).2.1.length:Nat):Int)⟩)
  (hbeg:d.Kind=4→(0≤d.C∧d.C < 2)→w.p.Links.Gone.get d.C=false→w.p.Links.On.get d.C=false→1≤w.p.Height→w.p.Set.length≠0→P (zabg w d.C) ⟨0,w.p.Height⟩)
  (hcons:d.Kind=7→(0≤d.C∧d.C < 2)→(zb w.consumers d.C).On=true→P (zn5 w d.C) ⟨0,0⟩)
  (hseen:d.Kind=8→(0≤d.C∧d.C < 2)→(zb w.consumers d.C).On=true→d.Back=true→P (zauj w d.C) ⟨0,0⟩)
  (hsee:d.Kind=8→(0≤d.C∧d.C < 2)→(zb w.consumers d.C).On=true→d.Back=false→P (z88 w d.C { zb w.consumers d.C with Seen:=zali w.heads d.C }) ⟨0,0⟩)
  (hback:∀ q,d.Kind=9→(0≤d.C∧d.C < 2)→(zb w.consumers d.C).On=true→d.Back=true→zap6 w d.C true q→q.Kind≠1→P (gotB w d.C q) ⟨0,(zb w.consumers d.C).Out.Got+1⟩)
  (hforth:∀ q,d.Kind=9→(0≤d.C∧d.C < 2)→(zb w.consumers d.C).On=true→d.Back=false→zap6 w d.C false q→q.Kind=1→P (gotF w d.C q) ⟨0,(ze w.p.Links d.C).Out.Got+1⟩)
  (hlate:d.Kind=10→(0≤d.C∧d.C < 2)→(zb w.consumers d.C).On=true→(z6r w d).2=0→P (zae8 w d.C) ⟨0,0⟩)
  (hsay:∀ q f,(d.Kind=11∨d.Kind=12)→(0≤d.C∧d.C < 2)→(zb w.consumers d.C).On=true→zcz q=0→(q.Kind=3∧q.Id=(zb w.consumers d.C).Id∨q.Kind=4∧q.Id≤(zb w.consumers d.C).Id)→(zb w.consumers d.C).Out.Closed=false→(zb w.consumers d.C).Out.Said.length < 400→P (z88 w d.C (zap5 w d.C q f)) ⟨0,0⟩) :
  P (doW w d).1 (doW w d).2:=by
 have hm:=zjj h hd
 have no:∀ e:Int,e≠0→P (noW (zav w) e).1 (noW (zav w) e).2:=fun e he=>hno _ _ (.more w) he
 unfold doW
 rw[if_neg (by omega)]
 unfold actW
 by_cases c1:d.Kind=1
 ·rw[if_pos c1]
  unfold zpm
  have e:zcr (zav w).p d.D d.V d.N=zcr w.p d.D d.V d.N:=rfl
  by_cases h0:(zcr w.p d.D d.V d.N).2=0
  ·rw[e,if_neg (by simpa using h0)]
   unfold zcr at h0 ⊢
   rw[if_pos h.pr] at h0 ⊢
   by_cases h1:(zaz w.p.Stake d.D d.V d.N).2=0
   ·rw[if_neg (by simpa using h1)];exact hdel c1 h1
   ·rw[if_pos h1] at h0;exact absurd h0 h1
  ·rw[e,if_pos h0];exact no _ h0
 rw[if_neg c1]
 by_cases c2:d.Kind=2
 ·rw[if_pos c2]
  unfold zpm
  have e:zcl (zav w).p d.D d.V d.N (zav w).clock=zcl w.p d.D d.V d.N w.clock:=rfl
  by_cases h0:(zcl w.p d.D d.V d.N w.clock).2=0
  ·rw[e,if_neg (by simpa using h0)]
   unfold zcl at h0 ⊢
   have ht:z8 w.p=true∧0≤w.clock∧w.clock≤1099511627776:=⟨h.pr,h.t0,by have:=h.t1;omega⟩
   rw[if_pos ht] at h0 ⊢
   by_cases h1:(zaq w.p.Stake d.D d.V d.N (z1y w.p w.clock)).2=0
   ·rw[if_neg (by simpa using h1)];exact hund c2 h1
   ·rw[if_pos h1] at h0;exact absurd h0 h1
  ·rw[e,if_pos h0];exact no _ h0
 rw[if_neg c2]
 by_cases c3:d.Kind=3
 ·rw[if_pos c3]
  unfold zpm
  by_cases h0:(za1 w.p.Stake d.V 1).2=0
  ·rw[if_neg (by show ¬ (za1 w.p.Stake d.V 1).2≠0;simpa using h0)];exact hunj c3 h0
  ·rw[if_pos (by exact h0)];exact no _ h0
 rw[if_neg c3]
 by_cases c13:d.Kind=13
 ·rw[if_pos c13]
  unfold zpm
  have e:ztf (zav w).p d.V d.N=ztf w.p d.V d.N:=rfl
  by_cases h0:(ztf w.p d.V d.N).2=0
  ·rw[e,if_neg (by simpa using h0)]
   unfold ztf at h0 ⊢
   rw[if_neg (by rw[h.pr];simp)] at h0 ⊢
   by_cases h1:0≤d.V∧d.V < 6
   ·rw[if_pos h1] at h0 ⊢
    by_cases h2:1≤d.N∧d.N≤w.p.Height
    ·rw[if_pos h2] at h0 ⊢
     by_cases h3:w.p.Stake.Validators.Dead.get d.V=true
     ·rw[if_pos h3] at h0;cases h0
     ·rw[if_neg h3];exact hevi c13 h1 h2 (Bool.eq_false_iff.2 h3)
    ·rw[if_neg h2] at h0;cases h0
   ·rw[if_neg h1] at h0;cases h0
  ·rw[e,if_pos h0];exact no _ h0
 rw[if_neg c13]
 by_cases c5:d.Kind=5
 ·rw[if_pos c5]
  unfold zaev
  by_cases h0:d.N < 1∨1099511627736 - w.clock < d.N
  ·rw[if_pos (by exact h0)];exact no _ (by omega)
  ·rw[if_neg (by exact h0)];exact htick c5 (by omega) (by omega)
 rw[if_neg c5]
 by_cases c6:d.Kind=6
 ·rw[if_pos c6]
  have ht:z8 w.p=true∧w.p.Time≤w.clock∧w.clock≤1099511627776:=⟨h.pr,h.pt,by have:=h.t1;omega⟩
  unfold zjh
  rw[if_neg (by show ¬ (zgs w.p w.clock).2.2≠0;rw[zaa6 ht];simp)]
  exact hprov c6
 rw[if_neg c6]
 unfold zot
 by_cases b1:d.Kind < 4∨12 < d.Kind
 ·rw[if_pos b1];exact no _ (by omega)
 rw[if_neg b1]
 by_cases b2:d.C < 0∨2≤d.C
 ·rw[if_pos b2];exact no _ (by omega)
 rw[if_neg b2]
 have hi:0≤d.C∧d.C < 2:=by omega
 by_cases b3:d.Kind≠4∧(zav w).consumers.On.get d.C=false
 ·rw[if_pos b3];exact no _ (by omega)
 rw[if_neg b3]
 by_cases b4:d.Kind=4
 ·rw[if_pos b4]
  unfold zza
  have e:zdr (zav w).p d.C=zdr w.p d.C:=rfl
  rw[e]
  by_cases h0:(zdr w.p d.C).2=0
  ·obtain ⟨f1,_,f3,f4,f5,f6,f7⟩:=zvx h0
   rw[if_neg (by simpa using h0),f7]
   exact hbeg b4 hi f3 f4 f5 f6
  ·rw[if_pos h0];exact no _ h0
 rw[if_neg b4]
 have ho:(zb w.consumers d.C).On=true:=by
  cases e:(zb w.consumers d.C).On with
  | true=>rfl
  | false=>exact absurd ⟨b4,e⟩ b3
 have hw:=h.c d.C hi
 have hh:=hw.height
 by_cases b7:d.Kind=7
 ·rw[if_pos b7]
  obtain ⟨e0,-⟩:=ztw (now:=w.clock) hw.good ho ⟨hw.time,by have:=h.t1;omega⟩ (by omega)
  unfold ztv
  rw[if_neg (by show ¬ (zxh w.clock (zb w.consumers d.C)).2≠0;rw[e0];simp)]
  exact hcons b7 hi ho
 rw[if_neg b7]
 by_cases b8:d.Kind=8
 ·rw[if_pos b8]
  unfold z4h
  cases hb:d.Back with
  | true=>rw[if_pos rfl];exact hseen b8 hi ho hb
  | false=>rw[if_neg (by simp)];exact hsee b8 hi ho hb
 rw[if_neg b8]
 by_cases b9:d.Kind=9
 ·rw[if_pos b9]
  unfold zos
  have e1:zlp (zav w) d=zlp w d:=rfl
  rw[e1]
  by_cases h0:(zlp w d).2=0
  ·obtain ⟨f1,f2,f3,f4,f5,f6,f7,f8⟩:=z4j h0
   rw[if_neg (by simpa using h0)]
   have hg0:0≤(zdi w d.C d.Back).Got:=f1.2.2.1
   have hmem:∃ q,zcz q=0∧(zdi w d.C d.Back).Said.getD (zdi w d.C d.Back).Got.toNat .empty=txt (zn0 q):=by
    have hm:=zf0 (l:=(zdi w d.C d.Back).Said) (k:=(zdi w d.C d.Back).Got.toNat) (by omega) .empty
    generalize (zdi w d.C d.Back).Said.getD (zdi w d.C d.Back).Got.toNat .empty=s at hm
    cases hb:d.Back with
    | true=>rw[hb] at hm;obtain ⟨q,q1,_,q2⟩:=hw.said s hm;exact ⟨q,q1,q2⟩
    | false=>rw[hb] at hm;obtain ⟨q,q1,_,q2⟩:=hw.told s hm;exact ⟨q,q1,q2⟩
   obtain ⟨q,q1,q2⟩:=hmem
   have ht:(zji (zdi w d.C d.Back) d.Forged).data.toList=zn0 q:=by rw[f5,q2,zx9]
   have hcm:zap6 w d.C d.Back q:=⟨f1,f2,by omega,f4,q2,f6,q1⟩
   cases hb:d.Back with
   | true =>
    rw[hb] at ht hcm f7
    rw[if_pos rfl]
    have e2:zl0 (zav w).p d.C (zji (zdi (zav w) d.C true) d.Forged).data.toList=zl0 w.p d.C (zn0 q):=by rw[← ht];rfl
    rw[e2]
    by_cases h1:(zl0 w.p d.C (zn0 q)).2=0
    ·obtain ⟨_,_,_,q4,_,q6,_⟩:=zzb h.pr h1
     rw[z55 q1] at q4 q6
     rw[if_neg (by simpa using h1),q6,f7]
     exact hback q b9 hi ho hb hcm q4
    ·rw[if_pos h1];exact no _ h1
   | false =>
    rw[hb] at ht hcm f7
    rw[if_neg (show ¬ (false=true) by simp)]
    have e2:ztd (zb (zav w).consumers d.C) (zji (zdi (zav w) d.C false) d.Forged).data.toList=ztd (zb w.consumers d.C) (zn0 q):=by rw[← ht];rfl
    rw[e2]
    by_cases h1:(ztd (zb w.consumers d.C) (zn0 q)).2=0
    ·obtain ⟨_,_,q4,_,q6,_⟩:=z2a hw.good h1
     rw[z55 q1] at q4 q6
     rw[if_neg (by simpa using h1),q6,f7]
     exact hforth q b9 hi ho hb hcm q4
    ·rw[if_pos h1];exact no _ h1
  ·rw[if_pos h0];exact no _ h0
 rw[if_neg b9]
 by_cases b10:d.Kind=10
 ·rw[if_pos b10]
  unfold ztg
  have e1:z6r (zav w) d=z6r w d:=rfl
  rw[e1]
  by_cases h0:(z6r w d).2=0
  ·obtain ⟨f1,f2⟩:=z83 h hi ho
   have e2:zrl (zav w).p d.C=zrk w.p d.C:=f1
   have e3:zvt (zb (zav w).consumers d.C)={ zb w.consumers d.C with On:=false,Gone:=true,Out:={ (zb w.consumers d.C).Out with Closed:=true } }:=f2
   rw[if_neg (by simpa using h0),e2,e3]
   exact hlate b10 hi ho h0
  ·rw[if_pos h0];exact no _ h0
 rw[if_neg b10]
 have hw40:i64.wrap (w.clock+40)=w.clock+40:=zl (by have:=h.t0;omega) (by have:=h.t1;omega)
 by_cases b11:d.Kind=11
 ·rw[if_pos b11]
  unfold putW
  have e1:z1v (zb (zav w).consumers d.C) d.V (zav w).clock=z1v (zb w.consumers d.C) d.V w.clock:=rfl
  rw[e1]
  by_cases h0:(z1v (zb w.consumers d.C) d.V w.clock).2=0
  ·obtain ⟨_,_,_,_,_,_,_,hs,he⟩:=zacw h0
   obtain ⟨s1,s2,s3,s4,s5,s6⟩:=z19 hw.good (by simp) hs
   rw[if_neg (by simpa using h0),he,s5,hw40]
   exact hsay _ _ (.inl b11) hi ho s1 (.inl ⟨rfl,rfl⟩) s3 s4
  ·rw[if_pos h0];exact no _ h0
 rw[if_neg b11]
 by_cases b12:d.Kind=12
 ·rw[if_pos b12]
  unfold putW
  have e1:zpl (zb (zav w).consumers d.C) d.V d.N (zav w).clock=zpl (zb w.consumers d.C) d.V d.N w.clock:=rfl
  rw[e1]
  by_cases h0:(zpl (zb w.consumers d.C) d.V d.N w.clock).2=0
  ·rw[if_neg (by simpa using h0)]
   unfold zpl at h0 ⊢
   by_cases h1:zin (zb w.consumers d.C)=false∨w.clock < 0∨1099511627776 < w.clock
   ·rw[if_pos h1] at h0;cases h0
   rw[if_neg h1] at h0 ⊢
   by_cases h2:(zb w.consumers d.C).On=false∨d.V < 0∨5 < d.V
   ·rw[if_pos h2] at h0;cases h0
   rw[if_neg h2] at h0 ⊢
   by_cases h3:d.N < 1∨(zb w.consumers d.C).Id < d.N
   ·rw[if_pos h3] at h0;cases h0
   rw[if_neg h3] at h0 ⊢
   obtain ⟨s1,s2,s3,s4,s5,s6⟩:=z19 hw.good (q:=⟨4,d.N,d.V,maxC (zb w.consumers d.C) d.V,[],[]⟩) (by simp) h0
   rw[s5,hw40]
   exact hsay ⟨4,d.N,d.V,maxC (zb w.consumers d.C) d.V,[],[]⟩ (zb w.consumers d.C).Flags (.inr b12) hi ho s1 (.inr ⟨rfl,by show d.N≤_;omega⟩) s3 s4
  ·rw[if_pos h0];exact no _ h0
 ·omega
theorem OkW.cfit {w:Wld} (h:OkW w) {i:Int} (hi:0≤i∧i < 2):FitC 140737488351232 (zb w.consumers i):=(h.c i hi).fit h.d1
theorem zap7 {w:Wld} (h:OkW w):zcy w=some (w.p,w):=z85 h.fit
theorem zair {w:Wld} (h:OkW w) {i:Int} (hi:0≤i∧i < 2):zal i w=some (zb w.consumers i,w):=by
 rw[z86 fun hi=>h.cfit hi,if_pos hi]
theorem zalo:zs4=some true:=by
 obtain ⟨e1,e2,e3⟩:=do_4
 rw[zs4,zvp,Tr.rb zaik,Tr.rb (zain zaa8 (by decide)),do_1,Tr.rb (zain okW1 (by decide)),do_2,Tr.rb (zain okW2 (by decide)),do_3,Tr.rb (zain okW3 (by decide))]
 simp only[e1]
 rw[Tr.rt (by rfl),Tr.rb (zaln _),Tr.rt (by rw[e2];rfl),Tr.rb (zair okW4 (by omega)),Tr.rl,e3]
 rfl
theorem zais {σ ρ τ:Type} {F:σ→Option (σ⊕ρ)} (n:Nat) (mk:Nat→τ→σ) (I:Nat→τ→Prop) (out:τ→ρ)
  (hend:∀ t,I n t→F (mk n t)=some (.inr (out t))) (hstep:∀ i t,i < n→I i t→∃ t',F (mk i t)=some (.inl (mk (i+1) t'))∧I (i+1) t') {t:τ} (h0:I 0 t):∃ t',zde F (mk 0 t)=some (out t')∧I n t':=by
 obtain ⟨r,h1,t',h2,h3⟩:=zgg (F:=F) n mk I (fun _ _ r=>∃ t',r=out t'∧I n t') (fun t h=>⟨out t,hend t h,t,rfl,h⟩) (fun i t hi h=>by
  obtain ⟨t',k1,k2⟩:=hstep i t hi h
  exact .inl ⟨t',k1,k2,fun r hr=>hr⟩) 0 t (Nat.zero_le _) h0
 exact ⟨t',by rw[h1,h2],h3⟩
def z6u (l:List Deed):Nat:=min l.length 120
theorem zait {l:List Deed}:((decide (((z6u l:Nat):Int) < ((l.length:Nat):Int)))&&(decide (((z6u l:Nat):Int) < 120)))=false:=by
 unfold z6u
 rw[Bool.and_eq_false_iff,yy8,yy8]
 omega
theorem zaiu {l:List Deed} {i:Nat} (h:i < z6u l):((decide ((i:Int) < ((l.length:Nat):Int)))&&(decide ((i:Int) < 120)))=true:=by
 unfold z6u at h
 rw[yy7,decide_eq_true_eq,decide_eq_true_eq]
 omega
theorem zalp {l:List Deed} {i:Nat} (h:i < z6u l):i < l.length:=by unfold z6u at h;omega
theorem zzc (l:List Deed):Sl.len (.deeds l)=l.length:=rfl
def zaul (l:List Deed):Prop:=l.length≤4611686018427387904∧∀ d,d∈l→d.N≤9223372036854775807
theorem zalq {w:Wld} (d:Deed) (h:w.deeds < 600):(doW w d).1.deeds=w.deeds+1:=by
 have hp:∀ r,(zpm (zav w) r).1.deeds=w.deeds+1:=by intro r;unfold zpm;split<;>rfl
 have hq:∀ i r,(putW (zav w) i r).1.deeds=w.deeds+1:=by intro i r;unfold putW;split<;>rfl
 unfold doW
 rw[if_neg (by omega)]
 unfold actW
 repeat' split
 ·exact hp _
 ·exact hp _
 ·exact hp _
 ·exact hp _
 ·unfold zaev;split<;>rfl
 ·unfold zjh;split<;>rfl
 ·unfold zot
  repeat' split
  ·rfl
  ·rfl
  ·rfl
  ·unfold zza;split<;>rfl
  ·unfold ztv;split<;>rfl
  ·unfold z4h;split<;>rfl
  ·unfold zos;repeat' split
   all_goals rfl
  ·unfold ztg;split<;>rfl
  ·exact hq _ _
  ·exact hq _ _
  ·rfl
structure Grow (w w':Wld) (i:Int):Prop where
 link:(ze w.p.Links i).Out.Said <+: (ze w'.p.Links i).Out.Said
 cons:(zb w.consumers i).Out.Said <+: (zb w'.consumers i).Out.Said
theorem Grow.one {w w':Wld} {i j:Int} {c:zc} (hj:0≤j∧j < 2) (hi:0≤i∧i < 2) (hl:(ze w.p.Links i).Out.Said <+: (ze w'.p.Links i).Out.Said) (hc:w'.consumers=zla w.consumers j c) (h:(zb w.consumers j).Out.Said <+: c.Out.Said):Grow w w' i:=by
 refine ⟨hl,?_⟩
 rw[hc,zms hj hi]
 split
 ·rename_i e;rw[e];exact h
 ·exact List.prefix_refl _
def DeadI (s t:Stake):Prop:=∀ v:Int,0≤v→v < 6→(s.Validators.Dead.get v=true→t.Validators.Dead.get v=true)∧s.Validators.Lost.get v≤t.Validators.Lost.get v∧(s.Validators.Lost.get v < t.Validators.Lost.get v→s.Validators.Dead.get v=false∧t.Validators.Dead.get v=true)
theorem DeadI.same {s t:Stake} (h1:t.Validators.Dead=s.Validators.Dead) (h2:t.Validators.Lost=s.Validators.Lost):DeadI s t:=by
 intro v _ _
 rw[h1,h2]
 exact ⟨id,Int.le_refl _,fun h=>absurd h (Int.lt_irrefl _)⟩
theorem DeadI.refl (s:Stake):DeadI s s:=.same rfl rfl
theorem DeadI.trans {s t u:Stake} (h:DeadI s t) (k:DeadI t u):DeadI s u:=by
 intro v h0 h6
 obtain ⟨a1,a2,a3⟩:=h v h0 h6
 obtain ⟨b1,b2,b3⟩:=k v h0 h6
 refine ⟨fun x=>b1 (a1 x),by omega,fun x=>?_⟩
 by_cases e:s.Validators.Lost.get v < t.Validators.Lost.get v
 ·exact ⟨(a3 e).1,b1 (a3 e).2⟩
 ·obtain ⟨c1,c2⟩:=b3 (by omega)
  refine ⟨?_,c2⟩
  cases hd:s.Validators.Dead.get v with
  | false=>rfl
  | true=>rw[a1 hd] at c1;cases c1
def pkT (q:Packet):ByteArray:=txt (zn0 q)
theorem zabh {p q:Packet} (hp:zcz p=0) (hq:zcz q=0) (h:pkT p=pkT q):p=q:=by
 have h1:zn0 p=zn0 q:=by have:=congrArg (fun b:ByteArray=>b.data.toList) h;exact this
 have h2:=z55 hp
 rw[h1,z55 hq] at h2
 exact (congrArg Prod.fst h2).symm
def z3c (s:List Power) (l:List Packet):List Power:=l.foldl (fun s q=>zon s q.Set) s
theorem z89 (s:List Power) (l m:List Packet):z3c s (l++m)=z3c (z3c s l) m:=List.foldl_append
def z2b (id:Int) (l:List Packet):Int:=l.foldl (fun _ q=>q.Id) id
def z2c:Int→List Packet→Prop
 | _,[]=>True
 | id,q::l=>id < q.Id∧z2c q.Id l
theorem rises_app:∀ {l m:List Packet} {id:Int},z2c id (l++m)↔z2c id l∧z2c (z2b id l) m
 | [],m,id=>by simp[z2c,z2b]
 | q::l,m,id=>by
  simp only[List.cons_append,z2c]
  rw[rises_app (l:=l)]
  exact ⟨fun ⟨a,b,c⟩=>⟨⟨a,b⟩,c⟩,fun ⟨⟨a,b⟩,c⟩=>⟨a,b,c⟩⟩
theorem z6v {n:Int}:∀ {l:List Packet} {id:Int},id≤n→(∀ q,q∈l→q.Id≤n)→z2b id l≤n
 | [],_,h,_=>h
 | q::l,_,_,h=>z6v (l:=l) (h q (List.mem_cons_self ..)) (fun r hr=>h r (List.mem_cons_of_mem _ hr))
theorem z2d {now:Int}:∀ (l:List Packet) (c:zc),(l.foldl (zmk now) c).Set=z3c c.Set l∧(l.foldl (zmk now) c).Id=z2b c.Id l
 | [],_=>⟨rfl,rfl⟩
 | q::l,c=>by
  obtain ⟨h1,h2⟩:=z2d l (zmk now c q)
  rw[zri] at h1 h2
  rw[List.foldl_cons,zri]
  exact ⟨h1,h2⟩
structure WayI (w:Wld) (i:Int) (ms:List Packet):Prop where
 way:(ze w.p.Links i).Out.Said.drop (ze w.p.Links i).Out.Got.toNat=ms.map pkT
 good:∀ q,q∈ms→zcz q=0∧q.Kind=1
 rise:z2c (zb w.consumers i).Id ((zb w.consumers i).Pending++ms)
 id:(zb w.consumers i).Id≤w.p.Height
 ids:∀ q,q∈(zb w.consumers i).Pending++ms→q.Id≤w.p.Height
 told:z3c (zb w.consumers i).Set ((zb w.consumers i).Pending++ms)=(ze w.p.Links i).Told
theorem WayI.same {w w':Wld} {i:Int} {ms:List Packet} (h:WayI w i ms) (e1:(ze w'.p.Links i).Out.Said=(ze w.p.Links i).Out.Said) (e2:(ze w'.p.Links i).Out.Got=(ze w.p.Links i).Out.Got) (e3:(ze w'.p.Links i).Told=(ze w.p.Links i).Told)
  (e4:(zb w'.consumers i).Id=(zb w.consumers i).Id) (e5:(zb w'.consumers i).Pending=(zb w.consumers i).Pending) (e6:(zb w'.consumers i).Set=(zb w.consumers i).Set) (e7:w.p.Height≤w'.p.Height):WayI w' i ms:=by
 obtain ⟨a1,a2,a3,a4,a5,a6⟩:=h
 exact ⟨by rw[e1,e2];exact a1,a2,by rw[e4,e5];exact a3,by rw[e4];omega,fun q hq=>by rw[e5] at hq;have:=a5 q hq;omega,by rw[e5,e6,e3];exact a6⟩
theorem WayI.cons {w w':Wld} {i j:Int} {ms:List Packet} {c:zc} (hj:0≤j∧j < 2) (hi:0≤i∧i < 2) (h:WayI w i ms) (hl:(ze w'.p.Links i).Out.Said=(ze w.p.Links i).Out.Said∧(ze w'.p.Links i).Out.Got=(ze w.p.Links i).Out.Got∧(ze w'.p.Links i).Told=(ze w.p.Links i).Told)
  (hc:w'.consumers=zla w.consumers j c) (h1:c.Id=(zb w.consumers j).Id) (h2:c.Pending=(zb w.consumers j).Pending) (h3:c.Set=(zb w.consumers j).Set) (hH:w.p.Height≤w'.p.Height):WayI w' i ms:=by
 have e:=zms (C:=w.consumers) hj hi c
 refine h.same hl.1 hl.2.1 hl.2.2 ?_ ?_ ?_ hH
 all_goals
  rw[hc,e]
  split
  ·rename_i k;rw[k];assumption
  ·rfl
def zap8 (w:Wld):Prop:=∀ i:Int,0≤i∧i < 2→(zb w.consumers i).On=true→∃ ms,WayI w i ms
theorem zaiv {α:Type} {l:List α} {x:α} {k:Nat} (h:k≤l.length):(l++[x]).drop k=l.drop k++[x]:=List.drop_append_of_le_length h
theorem zalr {w:Wld} (h:OkW w) (hd:w.deeds < 600) {d:Deed} (k:d.Kind=6):(doW w d).1=zxn w:=by
 have ht:z8 w.p=true∧w.p.Time≤w.clock∧w.clock≤1099511627776:=⟨h.pr,h.pt,by have:=h.t1;omega⟩
 unfold doW
 rw[if_neg (by omega)]
 unfold actW
 rw[if_neg (by omega),if_neg (by omega),if_neg (by omega),if_neg (by omega),if_neg (by omega),if_pos k]
 unfold zjh
 rw[if_neg (by show ¬ (zgs w.p w.clock).2.2≠0;rw[zaa6 ht];simp)]
 rfl
def hN (x:Wait) (i:Int):Int:=if i=0 then x.h0 else x.h1
structure Near (y x:Wait):Prop where
 num:x.Number=y.Number
 due:x.Due=y.Due
 height:x.Height=y.Height
 v:x.V=y.V
 hold:∀ i:Int,0≤i∧i < 2→hN x i=hN y i∨hN x i=0
theorem Near.refl (x:Wait):Near x x:=⟨rfl,rfl,rfl,rfl,fun _ _=>.inl rfl⟩
theorem Near.trans {a b c:Wait} (h:Near a b) (k:Near b c):Near a c :=
 ⟨k.num.trans h.num,k.due.trans h.due,k.height.trans h.height,k.v.trans h.v,fun i hi=>by
  rcases k.hold i hi with e | e
  ·rw[e];exact h.hold i hi
  ·exact .inr e⟩
def NearW (W W':List Wait):Prop:=∀ x,x∈W'→∃ y,y∈W∧Near y x
theorem NearW.refl (W:List Wait):NearW W W:=fun x hx=>⟨x,hx,.refl x⟩
theorem NearW.trans {A B C:List Wait} (h:NearW A B) (k:NearW B C):NearW A C:=fun x hx=>by
 obtain ⟨y,hy,n1⟩:=k x hx
 obtain ⟨z,hz,n2⟩:=h y hy
 exact ⟨z,hz,n2.trans n1⟩
theorem NearW.map {W:List Wait} {f:Wait→Wait} (hf:∀ x,Near x (f x)):NearW W (W.map f):=fun x hx=>by
 obtain ⟨y,hy,rfl⟩:=List.mem_map.1 hx
 exact ⟨y,hy,hf y⟩
theorem zamx {c h:Int} {x:Wait} {i:Int} (hi:0≤i∧i < 2):hN (z9h c h x) i=if c=i∧hN x i≤h then 0 else hN x i:=by
 rcases (show i=0∨i=1 by omega) with rfl | rfl<;>rfl
theorem znz (s:Stake) (v what:Int):(za1 s v what).1.Waits=s.Waits:=by
 unfold za1
 repeat' split
 all_goals rfl
theorem z3d (s:Stake) (d v n:Int):(zaz s d v n).1.Waits=s.Waits:=by
 unfold zaz
 repeat' split
 all_goals rfl
theorem zabi {p:za} {now:Int} (hg:z8 p=true):z6m (zny p now) 0 (zny p now,⟨false,false⟩,[]) :=
 ⟨z1z hg,by simp,fun c hc=>by rcases (show c=0∨c=1 by omega) with rfl | rfl<;>rfl,fun b hb=>by cases hb⟩
theorem zaum {p:za} (hg:z8 p=true) {now:Int}:∀ a,a∈p.Queue→(0≤a.C∧a.C < 2)∧a∈(zny p now).Queue∧(0≤a.P.V∧a.P.V < 6):=by
 intro a ha
 refine ⟨(zaa3 hg a ha).2,ha,?_⟩
 have:=zj9 ((goodPr_iff.1 hg).1.ask ha).2.2.1
 omega
theorem zadd {p:za} {now:Int} (h:z8 p=true∧p.Time≤now∧now≤1099511627776):(zgs p now).1.Stake.Validators=(zdg p now).1.Stake.Validators:=by
 rw[(zor h).2.2.1,zalg (zqc (now:=now) h.1).1.good]
theorem z9a {p:za} {now:Int} (h:z8 p=true∧p.Time≤now∧now≤1099511627776):(zgs p now).1.Stake.Waits=(zdg p now).1.Stake.Waits.filter (fun w => !z34 now w):=by
 rw[(zor h).2.2.1,z6k (zqc (now:=now) h.1).1.good]
theorem zil {C:zcv} {i j:Int} (hj:0≤j∧j < 2) (hi:0≤i∧i < 2) (c:zc):(i=j∧zb (zla C j c) i=c)∨(i≠j∧zb (zla C j c) i=zb C i):=by
 by_cases e:i=j
 ·exact .inl ⟨e,by rw[e];exact zec hj c⟩
 ·exact .inr ⟨e,zc2 hj hi e c⟩
theorem z2e {now:Int}:∀ (l:List Packet) (c:zc),(l.foldl (zmk now) c).Ripes=c.Ripes++l.map (fun p=>(⟨p.Id,i64.wrap (now+15)⟩:Ripe))
 | [],c=>by simp
 | p::l,c=>by
  rw[List.foldl_cons,z2e l,zri]
  show (c.Ripes++[(⟨p.Id,i64.wrap (now+15)⟩:Ripe)])++_=_
  rw[List.append_assoc,List.map_cons];rfl
theorem zae9 {w:Wld} (h:OkW w) (hd:w.deeds < 600) {i:Int} (hi:0≤i∧i < 2) (ho:(zb w.consumers i).On=true) :
  ∃ (k:Nat) (R:List Ripe),R=(zb w.consumers i).Ripes++(zb w.consumers i).Pending.map (fun p=>(⟨p.Id,w.clock+15⟩:Ripe))∧k≤R.length ∧
   (zxh w.clock (zb w.consumers i)).1.Pending=[]∧(zxh w.clock (zb w.consumers i)).1.Ripes=R.drop k ∧
   (zxh w.clock (zb w.consumers i)).1.Out={ (zb w.consumers i).Out with Said:=(zb w.consumers i).Out.Said++(R.take k).map matT,Due:=(zb w.consumers i).Out.Due++List.replicate k (w.clock+40) } ∧
   (zxh w.clock (zb w.consumers i)).1.On=true∧(zxh w.clock (zb w.consumers i)).1.Time=w.clock∧(∀ r,r∈R→zjg r=true) ∧
   (zxh w.clock (zb w.consumers i)).1.Set=z3c (zb w.consumers i).Set (zb w.consumers i).Pending∧(zxh w.clock (zb w.consumers i)).1.Id=z2b (zb w.consumers i).Id (zb w.consumers i).Pending ∧
   (∀ r,r∈R.take k→r.Due≤w.clock)∧(k=R.length∨(∃ r,R[k]?=some r∧w.clock < r.Due)∨(zb w.consumers i).Out.Closed=true∨400≤(zb w.consumers i).Out.Said.length+k):=by
 have hw:=h.c i hi
 have h0:=h.t0;have h1:=h.t1;have hh:=hw.height
 obtain ⟨e0,m,k,hm,hpm,hl,hk,hf,f1,f2,f3,f4,f5,f6,f7,f8,hg⟩:=ztw hw.good ho ⟨hw.time,by omega⟩ (by omega)
 have hr:m.Ripes=(zb w.consumers i).Ripes++(zb w.consumers i).Pending.map (fun p=>(⟨p.Id,w.clock+15⟩:Ripe)):=by
  rw[hm,z2e]
  show (zb w.consumers i).Ripes++(zb w.consumers i).Pending.map (fun p=>(⟨p.Id,i64.wrap (w.clock+15)⟩:Ripe))=_
  rw[zl (by omega) (by omega)]
 obtain ⟨s1,s2⟩:=z2d (now:=w.clock) (zb w.consumers i).Pending { zb w.consumers i with Height:=(zb w.consumers i).Height+1,Time:=w.clock }
 rw[← hm] at s1 s2
 refine ⟨k,m.Ripes,hr,hk,by rw[hf],by rw[hf],by rw[hf],by rw[hf];exact f1.trans ho,by rw[hf];exact f4,fun r hr'=>List.all_eq_true.1 hpm.ripes r hr',by rw[hf];exact s1,by rw[hf];exact s2,f6,f7⟩
structure OneI (w:Wld) (i:Int):Prop where
 o1:(ze w.p.Links i).Out.Closed=false
 o2:(zb w.consumers i).Out.Closed=false
 n1:(((ze w.p.Links i).Out.Said.length:Nat):Int)≤w.p.Height
 rip:∀ r,r∈(zb w.consumers i).Ripes→r.Due≤w.clock+15
theorem OneI.same {w w':Wld} {i:Int} (h:OneI w i) (e1:(ze w'.p.Links i).Out.Closed=(ze w.p.Links i).Out.Closed) (e2:(ze w'.p.Links i).Out.Said=(ze w.p.Links i).Out.Said) (e3:(zb w'.consumers i).Out.Closed=(zb w.consumers i).Out.Closed)
  (e4:(zb w'.consumers i).Ripes=(zb w.consumers i).Ripes) (e5:w.p.Height≤w'.p.Height) (e6:w.clock≤w'.clock):OneI w' i:=by
 obtain ⟨a1,a2,a3,a4⟩:=h
 exact ⟨by rw[e1];exact a1,by rw[e3];exact a2,by rw[e2];omega,fun r hr=>by rw[e4] at hr;have:=a4 r hr;omega⟩
structure OneW (w:Wld):Prop where
 one:∀ i:Int,0≤i∧i < 2→(zb w.consumers i).On=true→OneI w i
 met:w.p.Meter.Next≤w.clock+10
theorem OneW.cons {w w':Wld} (h:OneW w) {j:Int} (hj:0≤j∧j < 2) {c:zc} (hc:w'.consumers=zla w.consumers j c) (hon:(zb w.consumers j).On=true)
  (hl:∀ i:Int,0≤i∧i < 2→(ze w'.p.Links i).Out.Closed=(ze w.p.Links i).Out.Closed∧(ze w'.p.Links i).Out.Said=(ze w.p.Links i).Out.Said)
  (h1:c.Out.Closed=(zb w.consumers j).Out.Closed) (h2:∀ r,r∈c.Ripes→r.Due≤w.clock+15) (hH:w'.p.Height=w.p.Height) (hM:w'.p.Meter=w.p.Meter) (ht:w'.clock=w.clock):OneW w':=by
 refine ⟨fun i hi ho=>?_,by rw[hM,ht];exact h.met⟩
 rw[hc] at ho
 obtain ⟨l1,l2⟩:=hl i hi
 rcases zil (C:=w.consumers) hj hi c with ⟨e,ec⟩ | ⟨e,ec⟩
 ·subst e
  obtain ⟨a1,a2,a3,a4⟩:=h.one i hi hon
  exact ⟨by rw[l1];exact a1,by rw[hc,ec,h1];exact a2,by rw[l2,hH];exact a3,fun r hr=>by rw[hc,ec] at hr;rw[ht];exact h2 r hr⟩
 ·rw[ec] at ho
  exact (h.one i hi ho).same l1 l2 (by rw[hc,ec]) (by rw[hc,ec]) (by rw[hH];exact Int.le_refl _) (by rw[ht];exact Int.le_refl _)
def Wit (w:Wld) (i h:Int):Prop :=
 ((ze w.p.Links i).Fresh=true∧h≤w.p.Height+1) ∨
 (∃ q,(q∈(zb w.consumers i).Pending∨zcz q=0∧pkT q∈(ze w.p.Links i).Out.Said.drop (ze w.p.Links i).Out.Got.toNat)∧h≤q.Id) ∨
 (∃ r,r∈(zb w.consumers i).Ripes∧h≤r.Id) ∨
 (∃ q,zcz q=0∧q.Kind=2∧pkT q∈(zb w.consumers i).Out.Said.drop (zb w.consumers i).Out.Got.toNat∧h≤q.Id) ∨
 (∃ a,a∈w.p.Queue∧a.C=i∧a.P.Kind=2∧h≤a.P.Id)
theorem Wit.mono {w w':Wld} {i h:Int} (k:Wit w i h) (f:(ze w.p.Links i).Fresh=true→(ze w'.p.Links i).Fresh=true) (H:w.p.Height≤w'.p.Height)
  (P:∀ q,q∈(zb w.consumers i).Pending→q∈(zb w'.consumers i).Pending)
  (S:∀ s,s∈(ze w.p.Links i).Out.Said.drop (ze w.p.Links i).Out.Got.toNat→s∈(ze w'.p.Links i).Out.Said.drop (ze w'.p.Links i).Out.Got.toNat)
  (R:∀ r,r∈(zb w.consumers i).Ripes→r∈(zb w'.consumers i).Ripes)
  (B:∀ s,s∈(zb w.consumers i).Out.Said.drop (zb w.consumers i).Out.Got.toNat→s∈(zb w'.consumers i).Out.Said.drop (zb w'.consumers i).Out.Got.toNat)
  (Q:∀ a,a∈w.p.Queue→a.C=i→a∈w'.p.Queue):Wit w' i h:=by
 rcases k with ⟨k1,k2⟩ | ⟨q,k1,k2⟩ | ⟨r,k1,k2⟩ | ⟨q,k0,k1,k2,k3⟩ | ⟨a,k0,k1,k2,k3⟩
 ·exact .inl ⟨f k1,by omega⟩
 ·refine .inr (.inl ⟨q,?_,k2⟩)
  rcases k1 with k1 | ⟨k1,k3⟩
  ·exact .inl (P q k1)
  ·exact .inr ⟨k1,S _ k3⟩
 ·exact .inr (.inr (.inl ⟨r,R r k1,k2⟩))
 ·exact .inr (.inr (.inr (.inl ⟨q,k0,k1,B _ k2,k3⟩)))
 ·exact .inr (.inr (.inr (.inr ⟨a,Q a k0 k1,k1,k2,k3⟩)))
structure zaz9 (w:Wld) (x:Wait):Prop where
 due:x.Due≤w.clock+20
 height:x.Height≤w.p.Height+1
 top:∀ i:Int,0≤i∧i < 2→0≤hN x i∧hN x i≤w.p.Height+1
 hold:∀ i:Int,0≤i∧i < 2→0 < hN x i→(zb w.consumers i).On=true∧Wit w i (hN x i)
def HoldW (w:Wld):Prop:=∀ x,x∈w.p.Stake.Waits→zaz9 w x
theorem HoldW.keep {w w':Wld} (h:HoldW w) (hp:0≤w.p.Height) (hW:NearW w.p.Stake.Waits w'.p.Stake.Waits) (hH:w'.p.Height=w.p.Height) (ht:w.clock≤w'.clock)
  (hk:∀ i n:Int,0≤i∧i < 2→(zb w.consumers i).On=true→Wit w i n→(zb w'.consumers i).On=true∧Wit w' i n):HoldW w':=by
 intro x hx
 obtain ⟨y,hy,n⟩:=hW x hx
 obtain ⟨a1,a2,a3,a4⟩:=h y hy
 refine ⟨by rw[n.due];omega,by rw[n.height,hH];exact a2,fun i hi=>?_,fun i hi h0=>?_⟩
 ·rw[hH]
  rcases n.hold i hi with e | e
  ·rw[e];exact a3 i hi
  ·rw[e];omega
 ·rcases n.hold i hi with e | e
  ·rw[e] at h0 ⊢
   obtain ⟨k1,k2⟩:=a4 i hi h0
   exact hk i _ hi k1 k2
  ·omega
