/-
  The plain lemmas.
-/
import Derived.Test.YtobfadhgiaphnaaGreatXFCodec
import Derived.Test.YtobfadhgiaphnaaGreatXFCons
import Derived.Test.YtobfadhgiaphnaaGreatXFLine
import Derived.Test.YtobfadhgiaphnaaGreatXFProv
import Derived.Test.YtobfadhgiaphnaaGreatXFRefA
import Derived.Test.YtobfadhgiaphnaaGreatXFRefB
import Derived.Test.YtobfadhgiaphnaaGreatXFRefC
import Derived.Test.YtobfadhgiaphnaaGreatXFRefP
import Derived.Test.YtobfadhgiaphnaaGreatXFRefW
import Derived.Test.YtobfadhgiaphnaaGreatXFStakeA
import Derived.Test.YtobfadhgiaphnaaGreatXFStakeB
import Derived.Test.YtobfadhgiaphnaaGreatXFWld
import Derived.Test.YtobfadhgiaphnaaGreatXFWldLaw
import Derived.Test.YtobfadhgiaphnaaGreatXPlB
namespace Go.Proofs.YtobfadhgiaphnaaGreat.Ab
open Go Go.RowKit
set_option linter.unusedVariables false
set_option linter.unusedSimpArgs false
def dOf (p:za) (c:Int):List Power:=zyy (fP (p.Links.Told.get c)) (fP p.Set)
def pkOf (p:za) (c:Int):Packet:=⟨1,p.Height,0,0,dOf p c,p.Links.Done.get c⟩
def zq2 (p:za) (c now:Int):zcl×Int:=z83 (zgy p.Links c) (zd6 (pkOf p c)).1 (now+40)
def zax5 (p:za) (c now:Int):za :=
 { p with Links:={ p.Links with Told:=p.Links.Told.set c p.Set,Fresh:=p.Links.Fresh.set c false,Done:=p.Links.Done.set c [],Said:=p.Links.Said.set c (zq2 p c now).1.Said,Due:=p.Links.Due.set c (zq2 p c now).1.Due,Got:=p.Links.Got.set c (zq2 p c now).1.Got,Closed:=p.Links.Closed.set c (zq2 p c now).1.Closed } }
def z6i (p:za) (c:Int):Prop:=p.Links.On.get c=false∨(dOf p c=[]∧p.Links.Done.get c=[]∧p.Links.Fresh.get c=false)
instance (p:za) (c:Int):Decidable (z6i p c):=by
 have:Decidable (dOf p c=[]):=decidable_of_iff ((dOf p c).length=0) List.length_eq_zero_iff
 have:Decidable (p.Links.Done.get c=[]):=decidable_of_iff ((p.Links.Done.get c).length=0) List.length_eq_zero_iff
 exact inferInstanceAs (Decidable (_∨_))
def zek (p:za) (c now:Int):za :=
 if z6i p c then p else if (zd6 (pkOf p c)).2≠0 then p else if (zq2 p c now).2≠0 then p else zax5 p c now
structure zab6 (p:za) (c:Int):Prop where
 t:(p.Links.Told.get c).length≤9223372036854775807
 s:p.Set.length≤6
 d:(p.Links.Done.get c).length≤6
 u:(p.Links.Due.get c).length≤9223372036854775807
theorem quiet_iff {p:za} {c:Int}:z6i p c↔p.Links.On.get c=false∨((dOf p c).length=0∧(p.Links.Done.get c).length=0∧p.Links.Fresh.get c=false):=by
 unfold z6i;rw[List.length_eq_zero_iff,List.length_eq_zero_iff]
theorem z4g {l:List Power} (h:l.length≤6):zav l=some l:=by
 rw[zav,ze4]
 refine Tr.run_split (fun h0=>?_) (fun _=>?_) (.inr trivial)
 ·rw[Tr.rl,List.length_eq_zero_iff.1 h0]
 ·rw[Tr.rg (by simp only[zp,List.length_nil];omega),Tr.rl]
theorem zass {p:za} {c now:Int} (hf:zab6 p c) (hc:0≤c∧c < 2) (hn:0≤now∧now≤1099511627776):zli c now p=some (zek p c now):=by
 obtain ⟨ft,fs,fd,fu⟩:=hf
 have hdl:(dOf p c).length≤6:=zaeg _ _
 have hD:zfd (p.Links.Told.get c) p.Set=some (dOf p c):=zaxk ft (by omega)
 have hE:zbz (⟨1,p.Height,0,0,dOf p c,p.Links.Done.get c⟩:Packet)=some (zd6 (pkOf p c)):=zabr (by show (dOf p c).length*16≤_;omega) (by show (p.Links.Done.get c).length*8≤_;omega)
 rw[zli,zs5,Tr.rg hc,Tr.rg (by rw[hD];rfl),hD]
 simp only[yy2]
 unfold zek
 by_cases hq:z6i p c
 ·rw[if_pos hq,Tr.rt (by
   rw[quiet_iff] at hq
   simp only[Bool.or_eq_true,yy7,Bool.not_eq_true',beq_iff_eq]
   rcases hq with h | ⟨h1,h2,h3⟩
   ·exact .inl h
   ·exact .inr ⟨⟨by omega,h3⟩,by omega⟩),Tr.rl]
 ·rw[if_neg hq,Tr.rf (by
   rw[Bool.eq_false_iff]
   intro h
   simp only[Bool.or_eq_true,yy7,Bool.not_eq_true',beq_iff_eq] at h
   refine hq (quiet_iff.2 ?_)
   rcases h with h | ⟨⟨h1,h2⟩,h3⟩
   ·exact .inl h
   ·exact .inr ⟨by omega,by omega,h2⟩),Tr.rg (by rw[hE];rfl),hE]
  simp only[yy2]
  by_cases he:(zd6 (pkOf p c)).2≠0
  ·rw[if_pos he,Tr.rt (by simpa using he),Tr.rl]
  ·rw[if_neg he,Tr.rf (by simpa using he),zf (x:=now+40) (by omega) (by omega),Tr.rb (za0k _ _ _)]
   by_cases hs:(zq2 p c now).2≠0
   ·rw[if_pos hs,Tr.rt (by simpa[zq2] using hs),Tr.rl]
   ·rw[if_neg hs,Tr.rf (by simpa[zq2] using hs),Tr.rg (by rw[z4g fs];rfl),Tr.rl,z4g fs]
    rfl
theorem z8q {p d:za} {l:List Int} {now:Int} {c:Nat} (hf:zab6 p c) (hc:c < 2) (hn:0≤now∧now≤1099511627776) :
  (zee now l c d p).run=some (.inl (now,l,((c+1:Nat):Int),d,zek p c now)):=by
 obtain ⟨ft,fs,fd,fu⟩:=hf
 have hdl:(dOf p c).length≤6:=zaeg _ _
 have hD:zje (p.Links.Told.get c) p.Set=some (dOf p c):=zaot ft (by omega)
 have hE:za3 (⟨1,p.Height,0,0,dOf p c,p.Links.Done.get c⟩:Packet)=some (zd6 (pkOf p c)):=z01 (by show (dOf p c).length*16≤_;omega) (by show (p.Links.Done.get (c:Int)).length*8≤_;omega)
 simp only[zee]
 rw[Tr.rt (by simp;omega),Tr.rg ⟨by omega,by omega⟩,Tr.rg (by rw[hD];rfl),hD]
 simp only[yy2]
 have hsum:IntKind.i64.wrap (((dOf p c).length:Int)+((p.Links.Done.get (c:Int)).length:Int))=((dOf p c).length:Int)+((p.Links.Done.get (c:Int)).length:Int):=zf (by omega) (by omega)
 rw[hsum]
 unfold zek
 by_cases hq:z6i p c
 ·rw[if_pos hq,Tr.rt (by
   rw[quiet_iff] at hq
   simp only[Bool.or_eq_true,yy7,Bool.not_eq_true',beq_iff_eq]
   rcases hq with h | ⟨h1,h2,h3⟩
   ·exact .inl h
   ·exact .inr ⟨by omega,h3⟩),Tr.rl,zl (by omega)]
 ·rw[if_neg hq,Tr.rf (by
   rw[Bool.eq_false_iff]
   intro h
   simp only[Bool.or_eq_true,yy7,Bool.not_eq_true',beq_iff_eq] at h
   refine hq (quiet_iff.2 ?_)
   rcases h with h | ⟨h1,h2⟩
   ·exact .inl h
   ·exact .inr ⟨by omega,by omega,h2⟩),Tr.rg (by rw[hE];rfl),hE]
  simp only[yy2]
  by_cases he:(zd6 (pkOf p c)).2≠0
  ·rw[if_pos he,Tr.rt (by simpa using he),Tr.rl,zl (by omega)]
  ·rw[if_neg he,Tr.rf (by simpa using he),zf (x:=now+40) (by omega) (by omega),Tr.rb (zair _ _ (by show (p.Links.Due.get (c:Int)).length≤_;exact fu))]
   by_cases hs:(zq2 p c now).2≠0
   ·rw[if_pos hs,Tr.rt (by simpa[zq2] using hs),Tr.rl,zl (by omega)]
   ·rw[if_neg hs,Tr.rf (by simpa[zq2] using hs),Tr.rg (by rw[zp];omega),Tr.rl,zl (by omega)]
    rfl
def z1a (p:za) (now:Int):za:={ p with Height:=p.Height+1,Time:=now,Meter:=zag6 p.Meter (allP p.Set) now }
def zd3 (p:za) (now:Int):za×A2 Bool×List Asked:=p.Queue.foldl z7w (z1a p now,⟨false,false⟩,[])
def zqa (p:za) (now:Int):za :=
 { (zd3 p now).1 with Stake:=(payS (zd3 p now).1.Stake now).1,Set:=setS (payS (zd3 p now).1.Stake now).1,Queue:=(zd3 p now).2.2 }
def zn3 (p:za) (now:Int):za×List Int×Int :=
 if zao p=true∧p.Time≤now∧now≤1099511627776 then (zek (zek (zqa p now) 0 now) 1 now,(payS (zd3 p now).1.Stake now).2.1,0) else (p,[],2)
theorem z9u (l:List Power):i64 (allP l):=by
 have:∀ (l:List Power) (t:Int),i64 t→i64 (l.foldl (fun t p=>IntKind.i64.wrap (t+p.N)) t):=by
  intro l
  induction l with
  | nil=>intro t ht;exact ht
  | cons q l ih=>intro t _;exact ih _ (by show i64 (IntKind.i64.wrap (t+q.N));rw[IntKind.wrap_i64];unfold i64;omega)
 exact this l 0 (by unfold i64;omega)
theorem zab7 {p:za} {now:Int} (hg:zao p=true):DealI (z1a p now) (z1a p now):=by
 obtain ⟨g1,_,_,k0,k1,_⟩:=zd7 hg
 unfold z87 at k0 k1
 simp only[yy7] at k0 k1
 exact ⟨p.Stake,p.Links.Done,zag6 p.Meter (allP p.Set) now,rfl,g1,k0.2,k1.2⟩
theorem zani {p0:za}:∀ (l:List Asked) (i:Nat) (t:za×A2 Bool×List Asked),zajj p0 i t→(∀ a,a∈l→(0≤a.C∧a.C < 2)∧a∈p0.Queue)→zajj p0 (i+l.length) (l.foldl z7w t)
 | [],i,t,h,_=>h
 | a::l,i,t,h,ha=>by
  have:=zani l (i+1) (z7w t a) (zag8 h (ha a (List.mem_cons_self ..)).1 (ha a (List.mem_cons_self ..)).2) (fun b hb=>ha b (List.mem_cons_of_mem _ hb))
  rw[List.foldl_cons,List.length_cons,show i+(l.length+1)=i+1+l.length by omega]
  exact this
theorem zaln {p:za} (hg:zao p=true):∀ a,a∈p.Queue→ztz p a=true∧(0≤a.C∧a.C < 2):=by
 intro a ha
 have h:=List.all_eq_true.1 (zd7 hg).2.2.2.2.2 a ha
 refine ⟨h,?_⟩
 unfold ztz at h
 simp only[yy7,decide_eq_true_eq] at h
 exact h.1.1.1
theorem z6j {p:za} {now:Int} (hg:zao p=true):zajj (z1a p now) p.Queue.length (zd3 p now):=by
 have:=zani (p0:=z1a p now) p.Queue 0 (z1a p now,⟨false,false⟩,[]) ⟨zab7 hg,by simp,fun c hc=>by rcases (show c=0∨c=1 by omega) with rfl | rfl<;>rfl,fun b hb=>by cases hb⟩ (fun a ha=>⟨(zaln hg a ha).2,ha⟩)
 rwa [Nat.zero_add] at this
theorem z9v {p:za} (hf:FitPr 140737488351232 p) {now:Int} (hg:zao p=true) (c:Int):zab6 (zqa p now) c:=by
 have hq:=z6j (now:=now) hg
 obtain ⟨S,D,M,e,hS,d0,d1⟩:=hq.1
 have ht:=hf.told c
 have hu:=hf.due c
 refine ⟨?_,z00 _,?_,?_⟩
 ·show ((zd3 p now).1.Links.Told.get c).length≤_
  rw[e];show (p.Links.Told.get c).length≤_;omega
 ·show ((zd3 p now).1.Links.Done.get c).length≤6
  exact z1t hq.1.get
 ·show ((zd3 p now).1.Links.Due.get c).length≤_
  rw[e];show (p.Links.Due.get c).length≤_;omega
theorem zanj {p:za} {now:Int} (h:zab6 p 1):zab6 (zek p 0 now) 1:=by
 unfold zek
 split
 ·exact h
 ·split
  ·exact h
  ·split
   ·exact h
   ·exact ⟨h.t,h.s,h.d,h.u⟩
theorem z9w {p:za} {now:Int}:(((!zao p)||(decide (now < p.Time)))||(decide (now > 1099511627776))) = !decide (zao p=true∧p.Time≤now∧now≤1099511627776):=by
 rw[Bool.eq_iff_iff]
 simp only[Bool.or_eq_true,Bool.not_eq_true',decide_eq_true_eq,yy8]
 cases zao p<;>simp<;>omega
theorem zapg {p:za} (hf:FitPr 140737488351232 p) {now:Int}:zdr p now=some (zn3 p now):=by
 have hset:=hf.set
 rw[zdr,zvm,Tr.rb (zl7 hf)]
 unfold zn3
 by_cases hg:zao p=true∧p.Time≤now∧now≤1099511627776
 ·obtain ⟨hg1,hg2⟩:=hg
  have hnum:=(zd7 hg1).2.1
  unfold zw0 at hnum
  rw[if_pos ⟨hg1,hg2⟩,Tr.rf (by rw[z9w,decide_eq_true ⟨hg1,hg2⟩];rfl),Tr.rg (by rw[za0p (by omega)];rfl),za0p (by omega)]
  simp only[yy2]
  rw[Tr.rg (by rw[zand (z9u _)];rfl),zand (z9u _),zf (x:=p.Height+1) (by omega) (by omega)]
  simp only[yy2]
  have hloop:=zax4 (p0:=z1a p now) (q:=p) (now:=now) (d:=default) (l:=p.Queue) (p:=z1a p now) (zab7 hg1) hf.queue (fun a ha=>⟨(zaln hg1 a ha).1,ha⟩)
  have hinv:=z6j (now:=now) hg1
  have hgs:GoodS (zd3 p now).1.Stake:=hinv.1.good
  have hpay:=zag4 hgs now
  have hz:(payS (zd3 p now).1.Stake now).2.2=0:=by rw[zar8 hgs]
  rw[Tr.rb (show zi0 now p.Queue ((p.Queue.length:Nat):Int) 0 (⟨p.Height+1,now,p.Stake,p.Set,p.Links,zag6 p.Meter (allP p.Set) now,p.Queue⟩:za) default ⟨false,false⟩ []=some (now,(zd3 p now).1,default,(zd3 p now).2.2) from hloop)]
  simp only[]
  rw[Tr.rb (show zug (zd3 p now).1.Stake now=_ from zbcw),Tr.rf (by rw[hz];rfl),Tr.rb (zbcy hpay)]
  have h0:=zass (now:=now) (z9v hf (now:=now) hg1 0) (by omega) (by omega)
  have h1:=zass (now:=now) (zanj (now:=now) (z9v hf (now:=now) hg1 1)) (by omega) (by omega)
  rw[Tr.rb (v:=((payS (zd3 p now).1.Stake now).2.1,zek (zek (zqa p now) 0 now) 1 now,default)) (by
   show znd now (payS (zd3 p now).1.Stake now).2.1 0 (zqa p now) default=_
   rw[znd,za1 (s':=(now,(payS (zd3 p now).1.Stake now).2.1,((1:Nat):Int),zek (zqa p now) 0 now,default)) (by
     simp only[zgl]
     rw[Tr.rt (by simp),Tr.rb h0,Tr.rl];rfl),
    za1 (s':=(now,(payS (zd3 p now).1.Stake now).2.1,((2:Nat):Int),zek (zek (zqa p now) 0 now) 1 now,default)) (by
     simp only[zgl]
     rw[Tr.rt (by simp)]
     rw[Tr.rb (show zli ((1:Nat):Int) now _=_ from h1),Tr.rl];rfl),
    zbo (by
     simp only[zgl]
     rw[Tr.rf (by simp),Tr.rl])]),Tr.rl]
 ·rw[if_neg hg,Tr.rt (by rw[z9w,decide_eq_false hg];rfl),Tr.rl]
theorem zag9 {p:za} (hf:FitPr 140737488351232 p) {now:Int}:zbb p now=some (zn3 p now):=by
 have hset:=hf.set
 rw[zbb,zot,Tr.rb (zfy hf)]
 unfold zn3
 by_cases hg:zao p=true∧p.Time≤now∧now≤1099511627776
 ·obtain ⟨hg1,hg2⟩:=hg
  have hnum:=(zd7 hg1).2.1
  unfold zw0 at hnum
  rw[if_pos ⟨hg1,hg2⟩,Tr.rf (by rw[z9w,decide_eq_true ⟨hg1,hg2⟩];rfl),Tr.rb (zo3 hf),Tr.rg (by rw[zam5 (by omega)];rfl),zam5 (by omega)]
  simp only[yy2]
  rw[Tr.rg (by rw[zab4 (z9u _)];rfl),zab4 (z9u _),zf (x:=p.Height+1) (by omega) (by omega)]
  simp only[yy2]
  have hloop:=zalm (p0:=z1a p now) (q:=p) (now:=now) (d:=default) (l:=p.Queue) (p:=z1a p now) (zab7 hg1) hf.queue (fun a ha=>⟨(zaln hg1 a ha).1,ha⟩)
  have hinv:=z6j (now:=now) hg1
  have hgs:GoodS (zd3 p now).1.Stake:=hinv.1.good
  have hpay:=zag4 hgs now
  rw[Tr.rb (show zfm now ((p.Queue.length:Nat):Int) 0 default (⟨p.Height+1,now,p.Stake,p.Set,p.Links,zag6 p.Meter (allP p.Set) now,[]⟩:za) p.Queue=some (now,default,z88 (zd3 p now).1 (zd3 p now).2.2) from hloop)]
  simp only[]
  rw[Tr.rb (show zru (z88 (zd3 p now).1 (zd3 p now).2.2).Stake now=some (payS (zd3 p now).1.Stake now) from zarz),Tr.rb (zar5 hpay)]
  have h0:=fun d l=>z8q (c:=0) (d:=d) (l:=l) (now:=now) (z9v hf (now:=now) hg1 0) (by omega) (by omega)
  have h1:=fun d l=>z8q (c:=1) (d:=d) (l:=l) (now:=now) (zanj (now:=now) (z9v hf (now:=now) hg1 1)) (by omega) (by omega)
  rw[Tr.rb (v:=((payS (zd3 p now).1.Stake now).2.1,default,zek (zek (zqa p now) 0 now) 1 now)) (by
   show zjk now (payS (zd3 p now).1.Stake now).2.1 0 default (zqa p now)=_
   rw[zjk,za1 (s':=(now,(payS (zd3 p now).1.Stake now).2.1,((1:Nat):Int),default,zek (zqa p now) 0 now)) (h0 _ _),
    za1 (s':=(now,(payS (zd3 p now).1.Stake now).2.1,((2:Nat):Int),default,zek (zek (zqa p now) 0 now) 1 now)) (h1 _ _),
    zbo (by
     simp only[zee]
     rw[Tr.rf (by simp),Tr.rl])]),Tr.rl]
 ·rw[if_neg hg,Tr.rt (by rw[z9w,decide_eq_false hg];rfl),Tr.rl]
theorem zaph:zao zapb=true:=by decide
theorem zfp (l:List Asked):Sl.len (.asked l)=l.length:=rfl
theorem zapi {s:Stake} (hg:GoodS s) {v h:Int} (hv:0≤v∧v < 6):(zjr s v h 50).2.2=0:=by
 unfold zjr
 rw[if_neg (by rw[zaer hg (by omega) hv];simp),if_neg (by omega)]
theorem zast {s:Stake} (hg:GoodS s) {v:Int} (hv:0≤v∧v < 6) (hd:s.Validators.Dead.get v=false):(zcx s v 2).2=0:=by
 unfold zcx
 rw[if_neg (by rw[zaer hg (by omega) hv];simp),if_neg (by omega),if_neg (by rw[hd];simp),if_neg (by omega)]
theorem zapj (s:Stake) (v h f:Int):(zjr s v h f).1.Validators.Dead=s.Validators.Dead:=by
 unfold zjr
 repeat' split
 all_goals rfl
def zw1 (p:za) (v h:Int):za×Int :=
 if zao p=false then (p,2) else if 0≤v∧v < 6 then (if 1≤h∧h≤p.Height then (if p.Stake.Validators.Dead.get v=true then (p,15) else ({ p with Stake:=(zcx (zjr p.Stake v h 50).1 v 2).1 },0)) else (p,2)) else (p,4)
theorem zab8 {p:za} (hf:FitPr 140737488351232 p) {v h:Int}:zkj p v h=some (zw1 p v h):=by
 rw[zkj,zlz,Tr.rb (zl7 hf)]
 unfold zw1
 cases hg:zao p with
 | false=>rw[zn2,Tr.rl,if_pos rfl]
 | true =>
  rw[zn1,if_neg (by simp)]
  by_cases hv:0≤v∧v < 6
  ·rw[Tr.rf (by simp;omega),if_pos hv]
   by_cases hh:1≤h∧h≤p.Height
   ·rw[Tr.rf (by simp;omega),if_pos hh,Tr.rg hv]
    cases hd:p.Stake.Validators.Dead.get v with
    | true=>rw[Tr.rt rfl,Tr.rl,if_pos rfl]
    | false =>
     have hs:=(zd7 hg).1
     rw[Tr.rf rfl,if_neg (by simp),Tr.rb zagz,Tr.rf (by rw[zapi hs hv];rfl),Tr.rb zak5,Tr.rf (by rw[zast (z09 hs v h 50) hv (by rw[zapj];exact hd)];rfl),Tr.rl]
   ·rw[Tr.rt (by simp;omega),Tr.rl,if_neg hh]
  ·rw[Tr.rt (by simp;omega),Tr.rl,if_neg hv]
theorem zadj {p:za} (hf:FitPr 140737488351232 p) {v h:Int}:zgq p v h=some (zw1 p v h):=by
 rw[zgq,zvs,Tr.rb (zfy hf)]
 unfold zw1
 cases hg:zao p with
 | false=>rw[zn2,Tr.rl,if_pos rfl]
 | true =>
  rw[zn1,if_neg (by simp)]
  by_cases hv:0≤v∧v < 6
  ·rw[Tr.rf (by simp;omega),if_pos hv]
   by_cases hh:1≤h∧h≤p.Height
   ·rw[Tr.rf (by simp;omega),if_pos hh,Tr.rg hv]
    cases hd:p.Stake.Validators.Dead.get v with
    | true=>rw[Tr.rt rfl,Tr.rl,if_pos rfl]
    | false =>
     have hs:=(zd7 hg).1
     rw[Tr.rf rfl,if_neg (by simp),Tr.rb (zo3 hf),Tr.rb z4e,Tr.rb z9p,Tr.rl]
   ·rw[Tr.rt (by simp;omega),Tr.rl,if_neg hh]
  ·rw[Tr.rt (by simp;omega),Tr.rl,if_neg hv]
def zrb (p:za) (c:Int) (s:List UInt8):za×Int :=
 if zao p=false then (p,2) else if (0≤c∧c < 2)∧p.Links.On.get c=true then (if (zat s).2≠0 then (p,(zat s).2) else if (zat s).1.Kind=1 then (p,3) else ({ p with Queue:=p.Queue++[⟨c,(zat s).1⟩] },0)) else (p,4)
theorem zae0 {l:List Asked} (h:l.length*88≤140737488351232):za5 l=some l:=by
 rw[za5,zf6]
 refine Tr.run_split (fun h0=>?_) (fun _=>?_) (.inr trivial)
 ·rw[Tr.rl,List.length_eq_zero_iff.1 h0]
 ·rw[Tr.rg (by simp only[zfp,List.length_nil];omega),Tr.rl]
theorem zalo {p:za} (hf:FitPr 140737488351232 p) {c:Int} {a:ByteArray} (ha:a.size≤140737488355328):zbi p c a=some (zrb p c a.data.toList):=by
 have e1:zgd a=some (zat a.data.toList):=zaiv (s:=a.data.toList) (by have:a.data.toList.length=a.size:=rfl;omega)
 have hq:=hf.queue
 rw[zbi,zs3,Tr.rb e1,Tr.rb (zl7 hf)]
 simp only[zae0 hf.queue,Option.isSome_some,yy2]
 unfold zrb
 cases hg:zao p with
 | false=>rw[zn2,Tr.rl,if_pos rfl]
 | true =>
  rw[zn1,if_neg (by simp),Tr.rg (by
   intro h0
   simp only[Bool.or_eq_false_iff,yy8] at h0
   exact ⟨by omega,trivial⟩)]
  by_cases hc:(0≤c∧c < 2)∧p.Links.On.get c=true
  ·rw[if_pos hc,Tr.rf (by rw[hc.2];simp;omega)]
   by_cases hd:(zat a.data.toList).2=0
   ·rw[Tr.rf (by simpa using hd),if_neg (by simpa using hd)]
    by_cases hk:(zat a.data.toList).1.Kind=1
    ·rw[Tr.rt (by simpa using hk),if_pos hk,Tr.rl]
    ·rw[Tr.rf (by simpa using hk),if_neg hk,Tr.rg (by trivial),Tr.rg (by simp only[zfp,yy5];omega),Tr.rl]
   ·rw[Tr.rt (by simpa using hd),if_pos hd,Tr.rl]
  ·rw[if_neg hc,Tr.rt (by
    simp only[Bool.or_eq_true,decide_eq_true_eq,Bool.not_eq_true']
    by_cases h1:0≤c∧c < 2
    ·exact .inr (Bool.eq_false_iff.2 (fun h2=>hc ⟨h1,h2⟩))
    ·exact .inl (by omega)),Tr.rl]
theorem zadk {p:za} (hf:FitPr 140737488351232 p) {c:Int} {a:ByteArray} (ha:a.size≤140737488355328):zb9 p c a=some (zrb p c a.data.toList):=by
 have e1:zdc a=some (zat a.data.toList):=z8m (s:=a.data.toList) (by have:a.data.toList.length=a.size:=rfl;omega)
 have hq:=hf.queue
 rw[zb9,zno,Tr.rb (zfy hf)]
 unfold zrb
 cases hg:zao p with
 | false=>rw[zn2,Tr.rl,if_pos rfl]
 | true =>
  rw[zn1,if_neg (by simp),Tr.rg (by
   intro h0
   simp only[Bool.or_eq_false_iff,yy8] at h0
   exact ⟨by omega,trivial⟩)]
  by_cases hc:(0≤c∧c < 2)∧p.Links.On.get c=true
  ·rw[if_pos hc,Tr.rf (by rw[hc.2];simp;omega),Tr.rb e1]
   by_cases hd:(zat a.data.toList).2=0
   ·rw[Tr.rf (by simpa using hd),if_neg (by simpa using hd)]
    by_cases hk:(zat a.data.toList).1.Kind=1
    ·rw[Tr.rt (by simpa using hk),if_pos hk,Tr.rl]
    ·rw[Tr.rf (by simpa using hk),if_neg hk,Tr.rb (zo3 hf),Tr.rg (by simp only[zfp,yy5];omega),Tr.rl]
   ·rw[Tr.rt (by simpa using hd),if_pos hd,Tr.rl]
  ·rw[if_neg hc,Tr.rt (by
    simp only[Bool.or_eq_true,decide_eq_true_eq,Bool.not_eq_true']
    by_cases h1:0≤c∧c < 2
    ·exact .inr (Bool.eq_false_iff.2 (fun h2=>hc ⟨h1,h2⟩))
    ·exact .inl (by omega)),Tr.rl]
theorem zab9 {p:Packet} (h:zf1 p=0):p.Set.length≤6∧p.Done.length≤6:=by
 obtain ⟨_,_,_,_,_,_,_,_,g9,g10,_⟩:=zoz h
 have l1:=zj9 g9 (by omega)
 exact ⟨by omega,z1t g10⟩
theorem zank {s:List UInt8} (h:(zat s).2=0):zf1 (zat s).1=0:=by
 unfold zat at h ⊢
 split
 ·rename_i k;rw[if_pos k] at h;cases h
 ·rename_i k
  rw[if_neg k] at h
  split
  ·rename_i k2;rw[if_pos k2] at h;exact absurd h k2
  ·rename_i k2;exact Classical.not_not.1 k2
def zke (L:Links) (c H:Int) (T:List Power) (f:Bool):Links :=
 ⟨L.On.set c true,L.Gone.set c false,L.Base.set c H,L.Told.set c T,L.Fresh.set c f,L.Done.set c [],L.Said.set c [],L.Due.set c [],L.Got.set c 0,L.Closed.set c false,L.SHeight.set c 0,L.STime.set c 0,L.SSaid.set c 0,L.SGot.set c 0⟩
def zmj (p:za) (c:Int) (W:List Wait) (f:Bool):za:={ p with Stake:={ p.Stake with Waits:=W },Links:=zke p.Links c p.Height p.Set f }
def zjt (c H:Int) (w:Wait):Wait:=if H < w.Height then { w with h0:=if c=0 then w.Height else w.h0,h1:=if c=1 then w.Height else w.h1 } else w
def z4k (p:za):Bool:=p.Stake.Waits.any (fun w=>decide (p.Height < w.Height))
def zfz (p:za) (c:Int):za×Int :=
 if zao p=false then (p,2) else if 0≤c∧c < 2 then (if p.Links.Gone.get c=true then (p,11) else if p.Links.On.get c=true then (p,5) else if p.Height < 1∨p.Set.length=0 then (p,13)
  else (zmj p c (p.Stake.Waits.map (zjt c p.Height)) (z4k p),0)) else (p,4)
theorem zaha {α:Type} (q:α→Bool):∀ (l:List α) (b:Bool),l.foldl (fun t w=>t||q w) b=(b||l.any q)
 | [],b=>by simp
 | a::l,b=>by rw[List.foldl_cons,zaha q l,List.any_cons,Bool.or_assoc]
theorem zae1 {α:Type} (a:A2 α) (c:Int) (x y:α):(a.set c x).set c y=a.set c y:=by
 unfold A2.set
 by_cases h:c=0
 ·subst h;rfl
 ·by_cases h1:c=1
  ·subst h1;rfl
  ·simp[h,h1]
theorem za0r {l W:List Wait} {i:Nat} {w:Wait} (hi:i < W.length) (hg:W.getD i default=w):W.set i w=W:=by rw[← hg,z1o hi]
theorem zapk {p z:za} {c:Int} (hc:0≤c∧c < 2) (hw:p.Stake.Waits.length*64≤140737488351232) :
  zki c p.Stake.Waits.length 0 (zmj p c p.Stake.Waits false) z=some (zmj p c (p.Stake.Waits.map (zjt c p.Height)) (z4k p),z):=by
 rw[zki]
 have:=z1p (F:=fun s:Int×Int×Int×za×za=>(zex s.1 s.2.1 s.2.2.1 s.2.2.2.1 s.2.2.2.2).run) p.Stake.Waits default
  (fun i W (f:Bool)=>(c,(p.Stake.Waits.length:Int),(i:Int),zmj p c W f,z)) (fun _ _=>True) (zjt c p.Height) (fun t w=>t||decide (p.Height < w.Height)) (fun W f=>(zmj p c W f,z)) ?_ ?_ false trivial
 ·rw[zaha] at this
  exact this
 ·intro W t hW _
  simp only[zex];rw[Tr.rf (by simp),Tr.rl]
 ·intro i W t hi hW hg _
  refine ⟨?_,trivial⟩
  simp only[zex]
  rw[yy4,show (zmj p c W t).Stake.Waits=W from rfl,hg,show (zmj p c W t).Height=p.Height from rfl]
  generalize hw':p.Stake.Waits.getD i default=w at hg ⊢
  rw[Tr.rt (by simpa using hi),Tr.rg ⟨by omega,by rw[z5];omega⟩]
  by_cases hp:p.Height < w.Height
  ·rw[Tr.rt (by simpa using hp),Tr.rg hc,Tr.rg hc,Tr.rl,zl (by omega)]
   have e:zjt c p.Height w={ w with h0:=if c=0 then w.Height else w.h0,h1:=if c=1 then w.Height else w.h1 }:=if_pos hp
   rw[e,decide_eq_true hp,Bool.or_true]
   rw[show (zmj p c W t).Links.Fresh=p.Links.Fresh.set c t from rfl,zae1]
   rfl
  ·rw[Tr.rf (by simpa using hp),Tr.rl,zl (by omega)]
   have e:zjt c p.Height w=w:=if_neg hp
   rw[e,decide_eq_false hp,Bool.or_false,za0r (l:=W) (by omega) hg]
theorem zajk {p:za} (hf:FitPr 140737488351232 p) {c:Int}:zax p c=some (zfz p c):=by
 rw[zax,zqr,Tr.rb (zl7 hf)]
 unfold zfz
 cases hg:zao p with
 | false=>rw[zn2,Tr.rl,if_pos rfl]
 | true =>
  rw[zn1,if_neg (by simp)]
  by_cases hc:0≤c∧c < 2
  ·rw[Tr.rf (by simp;omega),if_pos hc,Tr.rg hc]
   cases h1:p.Links.Gone.get c with
   | true=>rw[Tr.rt rfl,Tr.rl,if_pos rfl]
   | false =>
    rw[Tr.rf rfl,if_neg (by simp),Tr.rg hc]
    cases h2:p.Links.On.get c with
    | true=>rw[Tr.rt rfl,Tr.rl,if_pos rfl]
    | false =>
     rw[Tr.rf rfl,if_neg (by simp)]
     have hs:=zj9 (zd7 hg).2.2.1 (by omega)
     by_cases h3:p.Height < 1∨p.Set.length=0
     ·rw[if_pos h3,Tr.rt (by simp only[Bool.or_eq_true,decide_eq_true_eq,beq_iff_eq];omega),Tr.rl]
     ·have hcl:=z4g (l:=p.Set) (by omega)
      rw[if_neg h3,Tr.rf (by simp only[Bool.or_eq_false_iff,yy8,beq_eq_false_iff_ne];omega),Tr.rg (by rw[hcl];rfl),Tr.rg hc,Tr.rb (z57 hf.waits),hcl,Tr.rb (v:=(zmj p c (p.Stake.Waits.map (zjt c p.Height)) (z4k p),default)) (by exact zapk hc hf.waits),Tr.rl]
  ·rw[Tr.rt (by simp;omega),Tr.rl,if_neg hc]
theorem zahb {p z:za} {c:Int} (hc:0≤c∧c < 2) (hw:p.Stake.Waits.length*64≤140737488351232) :
  ztk c p.Stake.Waits p.Stake.Waits.length 0 p z (zmj p c p.Stake.Waits false)=some (z,zmj p c (p.Stake.Waits.map (zjt c p.Height)) (z4k p)):=by
 rw[ztk]
 have:=z1p (F:=fun s:Int×(List Wait)×Int×Int×za×za×za=>(zk9 s.1 s.2.1 s.2.2.1 s.2.2.2.1 s.2.2.2.2.1 s.2.2.2.2.2.1 s.2.2.2.2.2.2).run) p.Stake.Waits default
  (fun i W (f:Bool)=>(c,p.Stake.Waits,(p.Stake.Waits.length:Int),(i:Int),p,z,zmj p c W f)) (fun _ _=>True) (zjt c p.Height) (fun t w=>t||decide (p.Height < w.Height)) (fun W f=>(z,zmj p c W f)) ?_ ?_ false trivial
 ·rw[zaha] at this
  exact this
 ·intro W t hW _
  simp only[zk9];rw[Tr.rf (by simp),Tr.rl]
 ·intro i W t hi hW hg _
  refine ⟨?_,trivial⟩
  simp only[zk9]
  rw[yy4,show (zmj p c W t).Stake.Waits=W from rfl,hg]
  generalize hw':p.Stake.Waits.getD i default=w at hg ⊢
  rw[Tr.rt (by simpa using hi),Tr.rg ⟨by omega,by rw[z5];omega⟩]
  by_cases hp:p.Height < w.Height
  ·rw[Tr.rt (by simpa using hp),Tr.rg ⟨by omega,by rw[z5];omega⟩,Tr.rg hc,Tr.rg hc,Tr.rl,zl (by omega)]
   have e:zjt c p.Height w={ w with h0:=if c=0 then w.Height else w.h0,h1:=if c=1 then w.Height else w.h1 }:=if_pos hp
   rw[e,decide_eq_true hp,Bool.or_true]
   rw[show (zmj p c W t).Links.Fresh=p.Links.Fresh.set c t from rfl,zae1]
   rfl
  ·rw[Tr.rf (by simpa using hp),Tr.rl,zl (by omega)]
   have e:zjt c p.Height w=w:=if_neg hp
   rw[e,decide_eq_false hp,Bool.or_false,za0r (l:=W) (by omega) hg]
theorem zaca {p:za} (hf:FitPr 140737488351232 p) {c:Int}:zc7 p c=some (zfz p c):=by
 rw[zc7,z35,Tr.rb (zfy hf)]
 unfold zfz
 cases hg:zao p with
 | false=>rw[zn2,Tr.rl,if_pos rfl]
 | true =>
  rw[zn1,if_neg (by simp)]
  by_cases hc:0≤c∧c < 2
  ·rw[Tr.rf (by simp;omega),if_pos hc,Tr.rg hc]
   cases h1:p.Links.Gone.get c with
   | true=>rw[Tr.rt rfl,Tr.rl,if_pos rfl]
   | false =>
    rw[Tr.rf rfl,if_neg (by simp),Tr.rg hc]
    cases h2:p.Links.On.get c with
    | true=>rw[Tr.rt rfl,Tr.rl,if_pos rfl]
    | false =>
     rw[Tr.rf rfl,if_neg (by simp)]
     have hs:=zj9 (zd7 hg).2.2.1 (by omega)
     have hn:=(zd7 hg).2.1.1
     by_cases h3:p.Height < 1∨p.Set.length=0
     ·rw[if_pos h3,Tr.rt (by simp only[Bool.or_eq_true,decide_eq_true_eq,beq_iff_eq];omega),Tr.rl]
     ·rw[if_neg h3,Tr.rf (by simp only[Bool.or_eq_false_iff,yy8,beq_eq_false_iff_ne];omega),Tr.rb (zo3 hf),Tr.rg (by rw[zp];omega),Tr.rg hc,Tr.rb (v:=(default,zmj p c (p.Stake.Waits.map (zjt c p.Height)) (z4k p))) (by exact zahb hc hf.waits),Tr.rl]
  ·rw[Tr.rt (by simp;omega),Tr.rl,if_neg hc]
def zus (L:Links) (c:Int):Links:={ L with On:=L.On.set c false,Gone:=L.Gone.set c true,Fresh:=L.Fresh.set c false,Done:=L.Done.set c [],Closed:=L.Closed.set c true }
def z6k (c:Int) (a:Asked):Bool:=a.C != c
def z6l (p:za) (c:Int):za:={ p with Stake:=zlk p.Stake c 1099511627776,Links:=zus p.Links c,Queue:=p.Queue.filter (z6k c) }
def zr1 (p:za) (c:Int):za:=if zao p=true∧(0≤c∧c < 2)∧p.Links.On.get c=true then z6l p c else p
theorem za0s (a:Asked) (c:Int):zf2 a c=some (!z6k c a,c):=by
 rw[zf2,zlx,Tr.rl]
 unfold z6k
 simp[bne]
theorem zo4 {α:Type} {l:List α} {i:Nat} (h:i < l.length) (d:α):l.take (i+1)=l.take i++[l.getD i d]:=by
 rw[List.take_succ_eq_append_getElem h,zr8 h]
theorem zapl {l:List Asked} {c:Int} (hl:l.length*88≤140737488351232) :
  ∃ r,zck l.length 0 c l=some r ∧
   (match r with | .inl y=>∃ k:Nat,y=((k:Int),c,l)∧k < l.length∧(l.take k).all (z6k c)=true∧z6k c (l.getD k default)=false | .inr y=>y=(c,l)∧l.all (z6k c)=true):=by
 rw[zck]
 have:=zhz (F:=fun s:Int×Int×Int×(List Asked)=>(zan s.1 s.2.1 s.2.2.1 s.2.2.2).run) l.length (fun i (_:Unit)=>((l.length:Int),(i:Int),c,l)) (fun i _=>(l.take i).all (z6k c)=true)
  (fun i _ r=>match r with | .inl y=>∃ k:Nat,y=((k:Int),c,l)∧k < l.length∧(l.take k).all (z6k c)=true∧z6k c (l.getD k default)=false | .inr y=>y=(c,l)∧l.all (z6k c)=true) ?_ ?_ 0 () (Nat.zero_le _) rfl
 ·exact this
 ·intro t h
  refine ⟨.inr (c,l),?_,rfl,by rwa [List.take_length] at h⟩
  simp only[zan];rw[Tr.rf (by simp),Tr.rl]
 ·intro i t hi h
  simp only[zan]
  rw[yy4,Tr.rt (by simpa using hi),Tr.rg ⟨by omega,by rw[zfp];omega⟩,Tr.rb (za0s _ _)]
  cases hn:z6k c (l.getD i default) with
  | true=>exact .inl ⟨(),by rw[Tr.rf (by rfl),Tr.rl,zl (by omega)],by rw[zo4 hi default,List.all_append,h,List.all_cons,hn];rfl,fun r hr=>hr⟩
  | false=>exact .inr ⟨.inl ((i:Int),c,l),by rw[Tr.rt (by rfl),Tr.rl],i,rfl,hi,h,hn⟩
theorem zalp {l:List Asked} {c:Int} (hl:l.length*88≤140737488351232) {k:Nat} (hk:k < l.length) (ha:(l.take k).all (z6k c)=true) (hn:z6k c (l.getD k default)=false) :
  ∃ r,zcs k ((k+1:Nat):Int) c l=some r∧∃ n:Nat,r.1=n∧r.2.1=c∧n≤l.length∧r.2.2.length=l.length∧r.2.2.take n=l.filter (z6k c):=by
 rw[zcs]
 have:=zhz (F:=fun s:Int×Int×Int×(List Asked)=>(zas s.1 s.2.1 s.2.2.1 s.2.2.2).run) l.length (fun i (t:Nat×List Asked)=>((t.1:Int),(i:Int),c,t.2)) (fun i t=>t.1 < i∧t.2.length=l.length∧t.2.take t.1=(l.take i).filter (z6k c)∧t.2.drop i=l.drop i)
  (fun i _ r=>∃ n:Nat,r.1=n∧r.2.1=c∧n≤l.length∧r.2.2.length=l.length∧r.2.2.take n=l.filter (z6k c)) ?_ ?_ (k+1) (k,l) (by omega) ⟨by omega,rfl,?_,rfl⟩
 ·exact this
 ·rintro ⟨n,W⟩ ⟨h1,h2,h3,h4⟩
  simp only at h1 h2 h3 h4
  refine ⟨((n:Int),c,W),?_,n,rfl,rfl,by omega,h2,by rw[h3,List.take_length]⟩
  simp only[zas];rw[Tr.rf (by simp;omega),Tr.rl]
 ·rintro i ⟨n,W⟩ hi ⟨h1,h2,h3,h4⟩
  simp only at h1 h2 h3 h4
  have hg:W.getD i default=l.getD i default:=by
   have e1:=z2 (l:=W) (k:=i) (by omega) default
   have e2:=z2 (l:=l) (k:=i) hi default
   rw[h4,e2] at e1
   exact (List.cons.inj e1).1.symm
  have hd:W.drop (i+1)=l.drop (i+1):=by
   have e1:=z2 (l:=W) (k:=i) (by omega) default
   have e2:=z2 (l:=l) (k:=i) hi default
   rw[h4,e2] at e1
   exact (List.cons.inj e1).2.symm
  simp only[zas]
  rw[yy4,yy4,hg,Tr.rt (by simp;omega),Tr.rg ⟨by omega,by rw[zfp];omega⟩,Tr.rb (za0s _ _)]
  cases hq:z6k c (l.getD i default) with
  | true =>
   refine .inl ⟨(n+1,W.set n (l.getD i default)),by rw[Tr.rt (by rfl),Tr.rg ⟨by omega,by rw[zfp];omega⟩,Tr.rl,zl (by omega),zl (by omega)],⟨by simp only[];omega,by simp only[List.length_set];exact h2,?_,?_⟩,fun r hr=>hr⟩
   ·simp only[]
    rw[zo4 (by rw[List.length_set];omega) default,List.take_set_of_le (by omega),h3,zo4 hi default,List.filter_append,zr8 (by rw[List.length_set];omega),List.getElem_set_self,List.filter_cons,hq]
    rfl
   ·simp only[]
    rw[List.drop_set_of_lt (by omega),hd]
  | false =>
   refine .inl ⟨(n,W),by rw[Tr.rf (by rfl),Tr.rl,zl (by omega)],⟨by simp only[];omega,h2,?_,hd⟩,fun r hr=>hr⟩
   simp only[]
   rw[h3,zo4 hi default,List.filter_append,List.filter_cons,hq]
   simp
 ·simp only[]
  rw[zo4 hk default,List.filter_append,List.filter_cons,hn,List.filter_eq_self.2 (fun a h=>List.all_eq_true.1 ha a h)]
  simp
theorem zapm {l:List Asked} {c:Int} (hl:l.length*88≤140737488351232):zdq c l=some (c,l.filter (z6k c)):=by
 have hi:zbk c l=some (-1,c,l)∧l.all (z6k c)=true∨∃ k:Nat,zbk c l=some ((k:Int),c,l)∧k < l.length∧(l.take k).all (z6k c)=true∧z6k c (l.getD k default)=false:=by
  obtain ⟨r,h1,h2⟩:=zapl (c:=c) hl
  rw[zbk,zdp]
  cases r with
  | inl y =>
   obtain ⟨k,rfl,h3,h4,h5⟩:=h2
   exact .inr ⟨k,by rw[Tr.ri h1,Tr.rl],h3,h4,h5⟩
  | inr y =>
   obtain ⟨rfl,h3⟩:=h2
   exact .inl ⟨by rw[Tr.rj h1,Tr.rl],h3⟩
 rw[zdq,zd5]
 rcases hi with ⟨h1,h2⟩ | ⟨k,h1,h2,h3,h4⟩
 ·rw[Tr.rb h1,Tr.rt (by rfl),Tr.rl,List.filter_eq_self.2 (fun a h=>List.all_eq_true.1 h2 a h)]
 ·obtain ⟨r,k1,n,k2,k3,k4,k5,k6⟩:=zalp hl h2 h3 h4
  have hcl:zahm r.2.2 r.1=some (r.2.2.take n++List.replicate (r.2.2.length - n) default):=by
   unfold zahm
   rw[k2,if_pos (by omega),yy4]
  have hlt:(r.2.2.take n).length=n:=by rw[List.length_take];omega
  rw[Tr.rb h1,Tr.rf (by simp),zl (by omega),Tr.rb k1,Tr.rb hcl,k2,Tr.rg ⟨by omega,by rw[zfp,yy6,hlt];omega⟩,Tr.rl,k3,yy4,List.drop_zero,Nat.sub_zero,List.take_left' hlt,k6]
theorem zahc {p:za} (hf:FitPr 140737488351232 p) {c:Int}:zd0 p c=some (zr1 p c):=by
 rw[zd0,zol,Tr.rb (zl7 hf)]
 unfold zr1
 rw[Tr.rg (by
  intro h0
  simp only[Bool.or_eq_false_iff,yy8] at h0
  exact ⟨by omega,trivial⟩)]
 by_cases h:zao p=true∧(0≤c∧c < 2)∧p.Links.On.get c=true
 ·obtain ⟨h1,h2,h3⟩:=h
  rw[if_pos ⟨h1,h2,h3⟩,Tr.rf (by rw[h1,h3];simp;omega),Tr.rg h2,Tr.rg h2,Tr.rg h2,Tr.rg h2,Tr.rg h2,Tr.rb (z7q hf.waits),Tr.rb (zae0 hf.queue),Tr.rb (zapm hf.queue),Tr.rl]
  rfl
 ·rw[if_neg h,Tr.rt (by
   simp only[Bool.or_eq_true,decide_eq_true_eq,Bool.not_eq_true']
   cases h1:zao p with
   | false=>exact .inl (.inl (.inl rfl))
   | true =>
    by_cases h2:0≤c∧c < 2
    ·exact .inr (Bool.eq_false_iff.2 (fun h3=>h ⟨h1,h2,h3⟩))
    ·exact .inl (by omega)),Tr.rl]
theorem zadl {p z:za} {c:Int} (hl:p.Queue.length*88≤140737488351232):zqx c p.Queue.length 0 z p []=some (z,p,p.Queue.filter (z6k c)):=by
 rw[zqx]
 have:=zbx (F:=fun s:Int×Int×Int×za×za×(List Asked)=>(zji s.1 s.2.1 s.2.2.1 s.2.2.2.1 s.2.2.2.2.1 s.2.2.2.2.2).run) p.Queue.length (fun i t=>(c,(p.Queue.length:Int),(i:Int),z,p,t)) (fun i t=>t=(p.Queue.take i).filter (z6k c)) (fun _ _=>(z,p,p.Queue.filter (z6k c))) ?_ ?_ 0 [] (Nat.zero_le _) (by simp)
 ·exact this
 ·rintro t rfl
  simp only[zji];rw[Tr.rf (by simp),Tr.rl,List.take_length]
 ·rintro i t hi ht
  have hlen:t.length≤i:=by rw[ht];exact Nat.le_trans (List.length_filter_le _ _) (by rw[List.length_take];omega)
  simp only[zji]
  rw[yy4,Tr.rt (by simpa using hi),Tr.rg ⟨by omega,by rw[zfp];omega⟩]
  cases hq:z6k c (p.Queue.getD i default) with
  | true =>
   refine .inl ⟨t++[p.Queue.getD i default],by rw[Tr.rt (by exact hq),Tr.rg (by simp only[zfp,yy5];omega),Tr.rl,zl (by omega)],?_,by trivial⟩
   rw[zo4 hi default,List.filter_append,List.filter_cons,hq,ht];rfl
  | false =>
   refine .inl ⟨t,by rw[Tr.rf (by exact hq),Tr.rl,zl (by omega)],?_,by trivial⟩
   rw[zo4 hi default,List.filter_append,List.filter_cons,hq,ht];simp
theorem z89 {p:za} (hf:FitPr 140737488351232 p) {c:Int}:zhe p c=some (zr1 p c):=by
 have hgd:=zfy hf
 rw[zhe,z0t,hgd]
 simp only[Option.isSome_some,yy2]
 unfold zr1
 rw[Tr.rg (fun _=>⟨trivial,trivial⟩),Tr.rg (by
  intro h0
  simp only[Bool.or_eq_false_iff,yy8] at h0
  exact ⟨by omega,trivial⟩)]
 by_cases h:zao p=true∧(0≤c∧c < 2)∧p.Links.On.get c=true
 ·obtain ⟨h1,h2,h3⟩:=h
  rw[if_pos ⟨h1,h2,h3⟩,Tr.rf (by rw[h1,h3];simp;omega),Tr.rb (zo3 hf),Tr.rg h2,Tr.rb (z59 hf.waits)]
  rw[Tr.rb (v:=(default,{ p with Stake:=zlk p.Stake c 1099511627776,Links:=zus p.Links c },p.Queue.filter (z6k c))) (by exact zadl (p:={ p with Stake:=zlk p.Stake c 1099511627776,Links:=zus p.Links c }) hf.queue),Tr.rl]
  rfl
 ·rw[if_neg h,Tr.rt (by
   simp only[Bool.or_eq_true,decide_eq_true_eq,Bool.not_eq_true']
   cases h1:zao p with
   | false=>exact .inl (.inr rfl)
   | true =>
    by_cases h2:0≤c∧c < 2
    ·exact .inr (Bool.eq_false_iff.2 (fun h3=>h ⟨h1,h2,h3⟩))
    ·exact .inl (.inl (by omega))),Tr.rl]
theorem zajl {α:Type} {P:α→Prop} {a:A2 α} (h0:P (a.get 0)) (h1:P (a.get 1)) (c:Int):P (a.get c):=by
 by_cases h:c=0
 ·rw[h];exact h0
 ·have:a.get c=a.get 1:=by unfold A2.get;rw[if_neg h];rfl
  rw[this];exact h1
theorem zacb {m:Int}:∀ {l:List Power} {p:Int},(∀ q,q∈l→p < q.V∧q.V≤5∧m≤q.N∧q.N≤1125899906842624)→l.Pairwise (fun a b=>a.V < b.V)→zv m p l=true
 | [],p,_,_=>rfl
 | q::l,p,h1,h2=>by
  have hq:=h1 q (List.mem_cons_self ..)
  rw[List.pairwise_cons] at h2
  simp only[zv,yy7,decide_eq_true_eq]
  exact ⟨⟨⟨⟨hq.1,hq.2.1⟩,hq.2.2.1⟩,hq.2.2.2⟩,zacb (fun x hx=>⟨h2.1 x hx,(h1 x (List.mem_cons_of_mem _ hx)).2⟩) h2.2⟩
theorem zbc6 {s:Stake} (hg:GoodS s):zv 1 (-1) (setS s)=true:=by
 refine zacb (fun q hq=>?_) (z07 _)
 obtain ⟨hv,_,hn,h1⟩:=zaxo hg hq
 have:=(hg.at hv).1.1
 unfold inA at this
 omega
def GoodX (p:za):Prop:=GoodS p.Stake∧(0≤p.Height∧0≤p.Time∧p.Time≤1099511627776)∧zv 1 (-1) p.Set=true∧z87 p 0=true∧z87 p 1=true∧p.Queue.all (ztz p)=true
theorem goodPr_iff {p:za}:zao p=true↔GoodX p∧p.Height < 1099511627776:=by
 constructor
 ·intro h
  obtain ⟨a,⟨b1,b2,b3,b4⟩,c,d,e,f⟩:=zd7 h
  exact ⟨⟨a,⟨b1,b3,b4⟩,c,d,e,f⟩,b2⟩
 ·rintro ⟨⟨a,⟨b1,b3,b4⟩,c,d,e,f⟩,b2⟩
  unfold zao
  simp only[yy7,decide_eq_true_eq]
  exact ⟨⟨⟨⟨⟨a,b1,b2,b3,b4⟩,c⟩,d⟩,e⟩,f⟩
structure LkX (p:za) (c:Int):Prop where
 on:¬ (p.Links.On.get c=true∧p.Links.Gone.get c=true)
 b0:0≤p.Links.Base.get c
 b1:p.Links.Base.get c≤p.Height
 told:zv 1 (-1) (p.Links.Told.get c)=true
 line:zdv (zgy p.Links c)
 done:z8 (-1) (p.Links.Done.get c)=true
theorem okLk_iff {p:za} {c:Int}:z87 p c=true↔LkX p c:=by
 unfold z87
 simp only[yy7,decide_eq_true_eq]
 constructor
 ·rintro ⟨⟨⟨⟨⟨h1,h2⟩,h3⟩,h4⟩,h5⟩,h6⟩
  exact ⟨fun ⟨x,y⟩=>(by rw[x,y] at h1;cases h1),h2,h3,h4,h5,h6⟩
 ·rintro ⟨h1,h2,h3,h4,h5,h6⟩
  refine ⟨⟨⟨⟨⟨?_,h2⟩,h3⟩,h4⟩,h5⟩,h6⟩
  cases x:p.Links.On.get c
  ·rfl
  ·cases y:p.Links.Gone.get c
   ·rfl
   ·exact absurd ⟨x,y⟩ h1
theorem GoodX.lk {p:za} (h:GoodX p) {c:Int} (hc:0≤c∧c < 2):LkX p c:=by
 rcases (show c=0∨c=1 by omega) with rfl | rfl
 ·exact okLk_iff.1 h.2.2.2.1
 ·exact okLk_iff.1 h.2.2.2.2.1
theorem ask_iff {p:za} {a:Asked}:ztz p a=true↔(0≤a.C∧a.C < 2)∧p.Links.On.get a.C=true∧zf1 a.P=0∧a.P.Kind≠1:=by
 unfold ztz
 simp only[yy7,decide_eq_true_eq,beq_iff_eq,Bool.not_eq_true',beq_eq_false_iff_ne]
 constructor
 ·rintro ⟨⟨⟨⟨c0,c1⟩,c2⟩,c3⟩,c4⟩;exact ⟨⟨c0,c1⟩,c2,c3,c4⟩
 ·rintro ⟨⟨c0,c1⟩,c2,c3,c4⟩;exact ⟨⟨⟨⟨c0,c1⟩,c2⟩,c3⟩,c4⟩
theorem GoodX.ask {p:za} (h:GoodX p) {a:Asked} (ha:a∈p.Queue):(0≤a.C∧a.C < 2)∧p.Links.On.get a.C=true∧zf1 a.P=0∧a.P.Kind≠1:=ask_iff.1 (List.all_eq_true.1 h.2.2.2.2.2 a ha)
theorem fitX {p:za} (h:GoodX p) {R:Nat} (hR:100000≤R) (hq:p.Queue.length*88≤R):FitPr R p:=by
 have l0:=h.lk (c:=0) (by omega)
 have l1:=h.lk (c:=1) (by omega)
 have lp:∀ {l:List Power},zv 1 (-1) l=true→l.length*16≤R:=fun hl=>by have:=zj9 hl (by omega);omega
 have ld:∀ {l:List Int},z8 (-1) l=true→l.length*8≤R:=fun hl=>by have:=z1t hl;omega
 have lS:∀ {c:Int},LkX p c→(p.Links.Said.get c).length≤400∧(p.Links.Due.get c).length≤400:=by
  intro c l
  have e1:(p.Links.Said.get c).length=(p.Links.Due.get c).length:=l.line.1
  have e2:(p.Links.Said.get c).length≤400:=l.line.2.1
  omega
 have s0:=lS l0
 have s1:=lS l1
 have hw:p.Stake.Waits.length≤60:=h.1.2.1.2.2
 have t0:=lp l0.told;have t1:=lp l1.told;have d0:=ld l0.done;have d1:=ld l1.done
 have hset:=lp h.2.2.1
 have hask:=fun a ha=>zab9 (h.ask (a:=a) ha).2.2.1
 have hw':p.Stake.Waits.length*64≤R:=by omega
 have a0:(p.Links.Said.get 0).length*16≤R:=by omega
 have a1:(p.Links.Said.get 1).length*16≤R:=by omega
 have b0:(p.Links.Due.get 0).length*8≤R:=by omega
 have b1:(p.Links.Due.get 1).length*8≤R:=by omega
 have hps:∀ a,a∈p.Queue→a.P.Set.length*16≤R∧a.P.Done.length*8≤R:=fun a ha=>by have:=hask a ha;omega
 exact ⟨hw',hset,fun c=>zajl (P:=fun l:List Power=>l.length*16≤R) (a:=p.Links.Told) t0 t1 c,fun c=>zajl (P:=fun l:List Int=>l.length*8≤R) (a:=p.Links.Done) d0 d1 c,
  fun c=>zajl (P:=fun l:List ByteArray=>l.length*16≤R) (a:=p.Links.Said) a0 a1 c,fun c=>zajl (P:=fun l:List Int=>l.length*8≤R) (a:=p.Links.Due) b0 b1 c,hq,hps⟩
theorem zapn {l:zcl} {s:ByteArray} {u:Int} (h:zdv l) (hu:0≤u):zdv (z83 l s u).1:=by
 unfold z83
 rw[if_neg (by rintro (k | k);exact k h;omega)]
 split
 ·exact h
 ·split
  ·exact h
  ·rename_i h4
   obtain ⟨g1,g2,g3,g4,g5⟩:=h
   refine ⟨by simp[g1],by simp only[yy6,yy5];omega,g3,by simp only[yy6,yy5];omega,?_⟩
   simp only[List.any_append,g5,Bool.false_or,List.any_cons,List.any_nil,Bool.or_false,yy8]
   omega
theorem z9x {p:za} (hg:zao p=true) (now:Int):∃ S D M,(zd3 p now).1=upP (z1a p now) S D M∧GoodS S∧(∀ c:Int,z8 (-1) (D.get c)=true)∧(zd3 p now).2.2.length≤p.Queue.length∧∀ b,b∈(zd3 p now).2.2→b∈p.Queue:=by
 obtain ⟨⟨S,D,M,e,hS,d0,d1⟩,hq2,hq3,hq4⟩:=z6j (now:=now) hg
 exact ⟨S,D,M,e,hS,zajl (P:=fun l=>z8 (-1) l=true) d0 d1,hq2,hq4⟩
theorem zajm {p:za} (hg:zao p=true) {now:Int} (hn:p.Time≤now∧now≤1099511627776):GoodX (zqa p now):=by
 obtain ⟨S,D,M,e,hS,hd,hl,hm⟩:=z9x hg now
 have hx:=(goodPr_iff.1 hg).1
 have hp:=zag4 hS now
 have hn0:=hx.2.1
 unfold zqa
 rw[e]
 refine ⟨hp,⟨by show 0≤p.Height+1;omega,by show 0≤now;omega,hn.2⟩,zbc6 hp,okLk_iff.2 ?_,okLk_iff.2 ?_,List.all_eq_true.2 fun b hb=>?_⟩
 ·obtain ⟨a1,a2,a3,a4,a5,a6⟩:=hx.lk (c:=0) (by omega)
  exact ⟨a1,a2,by show p.Links.Base.get 0≤p.Height+1;omega,a4,a5,hd 0⟩
 ·obtain ⟨a1,a2,a3,a4,a5,a6⟩:=hx.lk (c:=1) (by omega)
  exact ⟨a1,a2,by show p.Links.Base.get 1≤p.Height+1;omega,a4,a5,hd 1⟩
 ·exact ask_iff.2 (hx.ask (hm b hb))
theorem z6m (p:za) (c now:Int):(zek p c now).Height=p.Height∧(zek p c now).Time=p.Time∧(zek p c now).Stake=p.Stake∧(zek p c now).Set=p.Set∧(zek p c now).Meter=p.Meter∧(zek p c now).Queue=p.Queue ∧
  (zek p c now).Links.On=p.Links.On∧(zek p c now).Links.Gone=p.Links.Gone∧(zek p c now).Links.Base=p.Links.Base∧(zek p c now).Links.SHeight=p.Links.SHeight∧(zek p c now).Links.STime=p.Links.STime∧(zek p c now).Links.SSaid=p.Links.SSaid∧(zek p c now).Links.SGot=p.Links.SGot:=by
 unfold zek
 repeat' split
 all_goals exact ⟨rfl,rfl,rfl,rfl,rfl,rfl,rfl,rfl,rfl,rfl,rfl,rfl,rfl⟩
theorem zae2 {p:za} {c j now:Int} (hc:0≤c∧c < 2) (hj:0≤j∧j < 2) (h:j≠c):(zek p c now).Links.Told.get j=p.Links.Told.get j∧(zek p c now).Links.Fresh.get j=p.Links.Fresh.get j∧(zek p c now).Links.Done.get j=p.Links.Done.get j∧zgy (zek p c now).Links j=zgy p.Links j:=by
 unfold zek
 repeat' split
 ·exact ⟨rfl,rfl,rfl,rfl⟩
 ·exact ⟨rfl,rfl,rfl,rfl⟩
 ·exact ⟨rfl,rfl,rfl,rfl⟩
 ·unfold zax5 zgy
  simp only[za2 _ _ hc hj,if_neg h]
  exact ⟨trivial,trivial,trivial,trivial⟩
theorem zbc7 {p:za} {c:Int} (hs:zv 1 (-1) p.Set=true):zv 0 (-1) (dOf p c)=true:=by
  have hb:∀ v:Nat,0≤fP p.Set v∧fP p.Set v≤1125899906842624:=by
    intro v
    unfold fP
    have hm:=zox (by omega) hs (by omega)
    revert hm
    generalize p.Set=l
    intro hm
    induction l with
    | nil=>simp[zcv]
    | cons q l ih =>
      simp only[zcv]
      split
      · have:=hm q (List.mem_cons_self ..);omega
      · exact ih (fun q hq=>hm q (List.mem_cons_of_mem _ hq))
  unfold dOf
  generalize fP p.Set=g at hb
  generalize fP (p.Links.Told.get c)=f
  have hm:∀ q,q∈zyy f g→∃ v:Nat,v < 6∧q=⟨v,g v⟩:=by
    intro q hq
    rw[zabm] at hq
    simp only[List.mem_append,List.not_mem_nil,or_false] at hq
    have key:∀ v:Nat,v < 6→q∈z82 (v:Int) (g v) (f v)→∃ v:Nat,v < 6∧q=⟨v,g v⟩:=by
      intro v hv h
      unfold z82 at h
      split at h
      · exact ⟨v,hv,List.mem_singleton.1 h⟩
      · cases h
    rcases hq with h | h | h | h | h | h
    · exact key 0 (by omega) h
    · exact key 1 (by omega) h
    · exact key 2 (by omega) h
    · exact key 3 (by omega) h
    · exact key 4 (by omega) h
    · exact key 5 (by omega) h
  refine zacb (fun q hq=>?_) ?_
  · obtain ⟨v,hv,rfl⟩:=hm q hq
    have:=hb v
    refine ⟨by show (-1:Int) < (v:Int);omega,by show (v:Int)≤5;omega,this.1,this.2⟩
  · rw[zabm]
    have one:∀ (v:Int) (x y:Int),(z82 v x y).Pairwise (fun a b=>a.V < b.V):=by
      intro v x y;unfold z82;split
      · exact List.pairwise_singleton ..
      · exact .nil
    have mem:∀ {v x y:Int} {q:Power},q∈z82 v x y→q.V=v:=by
      intro v x y q h;unfold z82 at h;split at h
      · rw[List.mem_singleton.1 h]
      · cases h
    refine List.pairwise_append.2 ⟨one _ _ _,List.pairwise_append.2 ⟨one _ _ _,List.pairwise_append.2 ⟨one _ _ _,List.pairwise_append.2 ⟨one _ _ _,List.pairwise_append.2 ⟨one _ _ _,List.pairwise_append.2 ⟨one _ _ _,.nil,?_⟩,?_⟩,?_⟩,?_⟩,?_⟩,?_⟩
    all_goals
      intro a ha b hb
      have k:=mem ha
      first
      | (exfalso;cases hb;done)
      | (simp only[List.mem_append,List.not_mem_nil,or_false] at hb
         first
         | (rcases hb with h | h | h | h | h<;>have:=mem h<;>omega)
         | (rcases hb with h | h | h | h<;>have:=mem h<;>omega)
         | (rcases hb with h | h | h<;>have:=mem h<;>omega)
         | (rcases hb with h | h<;>have:=mem h<;>omega)
         | (have:=mem hb;omega))
theorem zasu {p:za} {c:Int} (hs:zv 1 (-1) p.Set=true) (hd:z8 (-1) (p.Links.Done.get c)=true) (hH:1≤p.Height∧p.Height≤1099511627776):zf1 (pkOf p c)=0:=by
 unfold zf1 pkOf
 simp only[]
 rw[if_neg (by omega),if_neg (by omega),if_neg (by omega),zbc7 hs,hd]
 rfl
theorem zax6 {p:za} {c now:Int} (h:GoodX p) (hc:0≤c∧c < 2) (hH:1≤p.Height∧p.Height≤1099511627776) (hn:0≤now) :
  (zek p c now=p∧(z6i p c∨p.Links.Closed.get c=true∨400≤(p.Links.Said.get c).length)) ∨
  (¬ z6i p c∧p.Links.Closed.get c=false∧(p.Links.Said.get c).length < 400∧(zek p c now).Links={ p.Links with Told:=p.Links.Told.set c p.Set,Fresh:=p.Links.Fresh.set c false,Done:=p.Links.Done.set c [],Said:=p.Links.Said.set c (p.Links.Said.get c++[txt (z4a (pkOf p c))]),Due:=p.Links.Due.set c (p.Links.Due.get c++[now+40]) }):=by
 have lk:=h.lk hc
 have hg:=zasu (c:=c) h.2.2.1 lk.done hH
 unfold zek
 by_cases hq:z6i p c
 ·rw[if_pos hq];exact .inl ⟨rfl,.inl hq⟩
 ·rw[if_neg hq,zp4 hg,if_neg (by simp)]
  have hu:¬ (¬ zdv (zgy p.Links c)∨now+40 < 0):=by rintro (k | k);exact k lk.line;omega
  cases hcl:p.Links.Closed.get c with
  | true =>
   have:zq2 p c now=(zgy p.Links c,11):=by unfold zq2 z83;rw[if_neg hu,if_pos hcl]
   rw[this,if_pos (by simp)];exact .inl ⟨rfl,.inr (.inl rfl)⟩
  | false =>
   by_cases h4:400≤(p.Links.Said.get c).length
   ·have:zq2 p c now=(zgy p.Links c,6):=by unfold zq2 z83;rw[if_neg hu,if_neg (by simp[hcl]),if_pos h4]
    rw[this,if_pos (by simp)];exact .inl ⟨rfl,.inr (.inr h4)⟩
   ·have e:zq2 p c now=(⟨p.Links.Said.get c++[txt (z4a (pkOf p c))],p.Links.Due.get c++[now+40],p.Links.Got.get c,p.Links.Closed.get c⟩,0):=by
     unfold zq2 z83;rw[if_neg hu,if_neg (by simp[hcl]),if_neg h4,zp4 hg]
    rw[if_neg (by rw[e];simp)]
    refine .inr ⟨hq,rfl,by omega,?_⟩
    unfold zax5
    rw[e]
    simp only[zts _ hc]
theorem zacc {p:za} {c now:Int} (h:GoodX p) (hc:0≤c∧c < 2) (hn:0≤now):GoodX (zek p c now):=by
 unfold zek
 repeat' split
 ·exact h
 ·exact h
 ·exact h
 ·have hlk:∀ j:Int,0≤j∧j < 2→LkX (zax5 p c now) j:=by
   intro j hj
   obtain ⟨a1,a2,a3,a4,a5,a6⟩:=h.lk hj
   by_cases e:j=c
   ·subst e
    refine ⟨a1,a2,a3,?_,?_,?_⟩
    ·show zv 1 (-1) ((p.Links.Told.set j p.Set).get j)=true
     rw[za2 _ _ hj hj,if_pos rfl];exact h.2.2.1
    ·show zdv ⟨(p.Links.Said.set j (zq2 p j now).1.Said).get j,(p.Links.Due.set j (zq2 p j now).1.Due).get j,(p.Links.Got.set j (zq2 p j now).1.Got).get j,(p.Links.Closed.set j (zq2 p j now).1.Closed).get j⟩
     simp only[za2 _ _ hj hj,if_pos]
     refine zapn a5 ?_
     have:0≤now:=hn
     omega
    ·show z8 (-1) ((p.Links.Done.set j []).get j)=true
     rw[za2 _ _ hj hj,if_pos rfl];rfl
   ·refine ⟨a1,a2,a3,?_,?_,?_⟩
    ·show zv 1 (-1) ((p.Links.Told.set c p.Set).get j)=true
     rw[za2 _ _ hc hj,if_neg e];exact a4
    ·show zdv ⟨(p.Links.Said.set c (zq2 p c now).1.Said).get j,(p.Links.Due.set c (zq2 p c now).1.Due).get j,(p.Links.Got.set c (zq2 p c now).1.Got).get j,(p.Links.Closed.set c (zq2 p c now).1.Closed).get j⟩
     simp only[za2 _ _ hc hj,if_neg e]
     exact a5
    ·show z8 (-1) ((p.Links.Done.set c []).get j)=true
     rw[za2 _ _ hc hj,if_neg e];exact a6
  exact ⟨h.1,h.2.1,h.2.2.1,okLk_iff.2 (hlk 0 (by omega)),okLk_iff.2 (hlk 1 (by omega)),h.2.2.2.2.2⟩
theorem zax7 {p:za} (hg:zao p=true) {now:Int} (hn:p.Time≤now∧now≤1099511627776):GoodX (zn3 p now).1:=by
 unfold zn3
 rw[if_pos ⟨hg,hn⟩]
 have h0:=(goodPr_iff.1 hg).1.2.1
 exact zacc (zacc (zajm hg hn) (by omega) (by omega)) (by omega) (by omega)
theorem zajn {p:za} (hg:zao p=true) {c:Int} (hc:0≤c∧c < 2):zao (z6l p c)=true:=by
 obtain ⟨hx,hH⟩:=goodPr_iff.1 hg
 have hlk:∀ j:Int,0≤j∧j < 2→LkX (z6l p c) j:=by
  intro j hj
  obtain ⟨a1,a2,a3,a4,a5,a6⟩:=hx.lk hj
  refine ⟨?_,a2,a3,a4,a5,?_⟩
  ·show ¬ ((p.Links.On.set c false).get j=true∧(p.Links.Gone.set c true).get j=true)
   rw[za2 _ _ hc hj,za2 _ _ hc hj]
   by_cases e:j=c
   ·rw[if_pos e];simp
   ·rw[if_neg e,if_neg e];exact a1
  ·show z8 (-1) ((p.Links.Done.set c []).get j)=true
   rw[za2 _ _ hc hj]
   by_cases e:j=c
   ·rw[if_pos e];rfl
   ·rw[if_neg e];exact a6
 refine goodPr_iff.2 ⟨⟨z8o hx.1,hx.2.1,hx.2.2.1,okLk_iff.2 (hlk 0 (by omega)),okLk_iff.2 (hlk 1 (by omega)),List.all_eq_true.2 fun b hb=>ask_iff.2 ?_⟩,hH⟩
 obtain ⟨h1,h2⟩:=List.mem_filter.1 hb
 obtain ⟨q1,q2,q3,q4⟩:=hx.ask h1
 refine ⟨q1,?_,q3,q4⟩
 show (p.Links.On.set c false).get b.C=true
 rw[za2 _ _ hc q1,if_neg (by simpa[z6k] using h2)]
 exact q2
theorem zasv {p:za} {now:Int} (h:zao p=true∧p.Time≤now∧now≤1099511627776):(zn3 p now).2.2=0:=by unfold zn3;rw[if_pos h]
theorem zbc8 {p:za} {now:Int} (h:¬ (zao p=true∧p.Time≤now∧now≤1099511627776)):zn3 p now=(p,[],2):=by unfold zn3;rw[if_neg h]
theorem zax8 {p:za} {now:Int} (h:zao p=true∧p.Time≤now∧now≤1099511627776) :
  (zn3 p now).1.Height=p.Height+1∧(zn3 p now).1.Time=now∧(zn3 p now).1.Stake=(payS (zd3 p now).1.Stake now).1∧(zn3 p now).1.Set=setS (payS (zd3 p now).1.Stake now).1∧(zn3 p now).1.Queue=(zd3 p now).2.2 ∧
  (zn3 p now).1.Links.On=p.Links.On∧(zn3 p now).1.Links.Gone=p.Links.Gone∧(zn3 p now).1.Links.Base=p.Links.Base:=by
 unfold zn3
 rw[if_pos h]
 obtain ⟨S,D,M,e,-⟩:=z9x h.1 now
 obtain ⟨a1,a2,a3,a4,a5,a6,a7,a8,a9,-⟩:=z6m (zek (zqa p now) 0 now) 1 now
 obtain ⟨b1,b2,b3,b4,b5,b6,b7,b8,b9,-⟩:=z6m (zqa p now) 0 now
 simp only[a1,a2,a3,a4,a6,a7,a8,a9,b1,b2,b3,b4,b6,b7,b8,b9]
 refine ⟨?_,?_,rfl,rfl,rfl,?_,?_,?_⟩
 all_goals
  unfold zqa
  rw[e]
  rfl
def zbc9 (on fresh:Bool) (told:List Power) (D:List Int) (l:zcl) (H now:Int) (set told':List Power) (D':List Int) (fresh':Bool) (l':zcl):Prop :=
 (told'=told∧D'=D∧fresh'=fresh∧l'=l∧(on=false∨(zyy (fP told) (fP set)=[]∧D=[]∧fresh=false)∨l.Closed=true∨400≤l.Said.length)) ∨
 (told'=set∧D'=[]∧fresh'=false∧on=true∧l.Closed=false∧l.Said.length < 400∧¬ (zyy (fP told) (fP set)=[]∧D=[]∧fresh=false)∧zf1 ⟨1,H,0,0,zyy (fP told) (fP set),D⟩=0 ∧
  l'=⟨l.Said++[txt (z4a ⟨1,H,0,0,zyy (fP told) (fP set),D⟩)],l.Due++[now+40],l.Got,l.Closed⟩)
theorem zajo {p:za} {c now:Int} (h:GoodX p) (hc:0≤c∧c < 2) (hH:1≤p.Height∧p.Height≤1099511627776) (hn:0≤now) :
  zbc9 (p.Links.On.get c) (p.Links.Fresh.get c) (p.Links.Told.get c) (p.Links.Done.get c) (zgy p.Links c) p.Height now p.Set ((zek p c now).Links.Told.get c) ((zek p c now).Links.Done.get c) ((zek p c now).Links.Fresh.get c) (zgy (zek p c now).Links c):=by
 rcases zax6 h hc hH hn with ⟨e,h1⟩ | ⟨h1,h2,h3,e⟩
 ·rw[e]
  refine .inl ⟨rfl,rfl,rfl,rfl,?_⟩
  rcases h1 with (h1 | h1) | h1 | h1
  ·exact .inl h1
  ·exact .inr (.inl h1)
  ·exact .inr (.inr (.inl h1))
  ·exact .inr (.inr (.inr h1))
 ·rw[e]
  have on:p.Links.On.get c=true:=by
   cases o:p.Links.On.get c with
   | true=>rfl
   | false=>exact absurd (.inl o) h1
  refine .inr ⟨?_,?_,?_,on,h2,h3,fun k=>h1 (.inr k),zasu h.2.2.1 (h.lk hc).done hH,?_⟩
  ·simp only[za2 _ _ hc hc,if_pos]
  ·simp only[za2 _ _ hc hc,if_pos]
  ·simp only[za2 _ _ hc hc,if_pos]
  ·unfold zgy
   simp only[za2 _ _ hc hc,if_pos]
   rfl
theorem zasw {p:za} (hg:zao p=true) (now:Int):(zqa p now).Height=p.Height+1∧(zqa p now).Links.On=p.Links.On∧(zqa p now).Links.Fresh=p.Links.Fresh∧(zqa p now).Links.Told=p.Links.Told∧(∀ c,zgy (zqa p now).Links c=zgy p.Links c):=by
 obtain ⟨S,D,M,e,-⟩:=z9x hg now
 unfold zqa
 rw[e]
 exact ⟨rfl,rfl,rfl,rfl,fun _=>rfl⟩
theorem zax9 {p:za} {now:Int} (h:zao p=true∧p.Time≤now∧now≤1099511627776) {c:Int} (hc:0≤c∧c < 2) :
  ∃ D,D=(zqa p now).Links.Done.get c∧zbc9 (p.Links.On.get c) (p.Links.Fresh.get c) (p.Links.Told.get c) D (zgy p.Links c) (zn3 p now).1.Height now (zn3 p now).1.Set ((zn3 p now).1.Links.Told.get c) ((zn3 p now).1.Links.Done.get c) ((zn3 p now).1.Links.Fresh.get c) (zgy (zn3 p now).1.Links c):=by
 obtain ⟨hx,hH⟩:=goodPr_iff.1 h.1
 have hn:0≤now:=by have:=hx.2.1.2.1;omega
 have h0:=hx.2.1.1
 have g0:=zajm h.1 h.2
 have g1:=zacc (c:=0) g0 (by omega) hn
 obtain ⟨p1,p2,p3,p4,p5⟩:=zasw h.1 now
 obtain ⟨a1,a2,a3,a4,a5,a6,a7,a8,a9,-⟩:=z6m (zek (zqa p now) 0 now) 1 now
 obtain ⟨b1,b2,b3,b4,b5,b6,b7,b8,b9,-⟩:=z6m (zqa p now) 0 now
 refine ⟨_,rfl,?_⟩
 unfold zn3
 rw[if_pos h]
 simp only[]
 rw[a1,a4,b1,b4,← p2,← p3,← p4,← p5 c]
 rcases (show c=0∨c=1 by omega) with rfl | rfl
 ·obtain ⟨t1,t2,t3,t4⟩:=zae2 (p:=zek (zqa p now) 0 now) (c:=1) (j:=0) (now:=now) (by omega) (by omega) (by omega)
  rw[t1,t2,t3,t4]
  exact zajo g0 hc (by omega) hn
 ·obtain ⟨t1,t2,t3,t4⟩:=zae2 (p:=zqa p now) (c:=0) (j:=1) (now:=now) (by omega) (by omega) (by omega)
  have:=zajo (c:=1) (now:=now) g1 hc (by rw[b1];omega) hn
  rw[b7,t1,t2,t3,t4,b1,b4] at this
  exact this
theorem zae3 {C:zd9} {i j:Int} (hi:0≤i∧i < 2) (hj:0≤j∧j < 2) (c:zb):zc (zo8 C i c) j=if j=i then c else zc C j:=by
 unfold zc zo8
 simp only[za2 _ _ hi hj]
 by_cases e:j=i
 ·simp only[if_pos e]
 ·simp only[if_neg e]
theorem ztt {C:zd9} {i:Int} (hi:0≤i∧i < 2) (c:zb):zc (zo8 C i c) i=c:=by rw[zae3 hi hi,if_pos rfl]
theorem zqb {C:zd9} {i j:Int} (hi:0≤i∧i < 2) (hj:0≤j∧j < 2) (h:j≠i) (c:zb):zc (zo8 C i c) j=zc C j:=by rw[zae3 hi hj,if_neg h]
theorem z1b {C:zd9} {i:Int} (hi:0≤i∧i < 2):zo8 C i (zc C i)=C:=by
 unfold zc zo8
 simp only[zts _ hi]
def zacd (L:Links) (i:Int) (l:zcl):Links:={ L with Said:=L.Said.set i l.Said,Due:=L.Due.set i l.Due,Got:=L.Got.set i l.Got,Closed:=L.Closed.set i l.Closed }
def zalq (L:Links) (i:Int) (h:Head):Links:={ L with SHeight:=L.SHeight.set i h.Height,STime:=L.STime.set i h.Time,SSaid:=L.SSaid.set i h.Said,SGot:=L.SGot.set i h.Got }
theorem z7x {L:Links} {i j:Int} (hi:0≤i∧i < 2) (hj:0≤j∧j < 2) (l:zcl):zz (zacd L i l) j=if j=i then { zz L j with Out:=l } else zz L j:=by
 unfold zz zacd
 simp only[za2 _ _ hi hj]
 by_cases e:j=i
 ·simp only[if_pos e]
 ·simp only[if_neg e]
theorem z4h (L:Links) (i:Int):zgy L i=(zz L i).Out:=rfl
def noW (w:Wld) (e:Int):Wld×Reply:=(w,⟨e,0⟩)
def zasx (h:z6y) (p:za) (C:zd9):z6y :=
 { h with PHeight:=⟨p.Height,p.Height⟩,PTime:=⟨p.Time,p.Time⟩,PSaid:=⟨((p.Links.Said.x0.length:Nat):Int),((p.Links.Said.x1.length:Nat):Int)⟩,PGot:=C.Got }
def zbda (h:z6y) (i:Int) (c:zb) (got:Int):z6y :=
 { h with CHeight:=h.CHeight.set i c.Height,CTime:=h.CTime.set i c.Time,CSaid:=h.CSaid.set i ((c.Out.Said.length:Nat):Int),CGot:=h.CGot.set i got }
def zbdb (h:z6y) (i:Int):z6y :=
 ⟨h.PHeight.set i 0,h.PTime.set i 0,h.PSaid.set i 0,h.PGot.set i 0,h.CHeight.set i 0,h.CTime.set i 0,h.CSaid.set i 0,h.CGot.set i 0⟩
def za39 (h:z6y) (i:Int):Head:=⟨h.PHeight.get i,h.PTime.get i,h.PSaid.get i,h.PGot.get i⟩
def zbj9 (h:z6y) (i:Int):Head:=⟨h.CHeight.get i,h.CTime.get i,h.CSaid.get i,h.CGot.get i⟩
def zyn (w:Wld):Wld×Reply :=
 if (zn3 w.p w.clock).2.2≠0 then noW w (zn3 w.p w.clock).2.2
 else ({ w with p:=(zn3 w.p w.clock).1,heads:=zasx w.heads (zn3 w.p w.clock).1 w.consumers },⟨0,(((zn3 w.p w.clock).2.1.length:Nat):Int)⟩)
def zace (w:Wld) (i:Int):Wld×Reply :=
 if (zfz w.p i).2≠0 then noW w (zfz w.p i).2
 else ({ w with p:=(zfz w.p i).1,consumers:=zo8 w.consumers i (zwz (zfz w.p i).1.Set (zfz w.p i).1.Height w.clock),heads:=zbdb w.heads i },⟨0,(zfz w.p i).1.Height⟩)
def z6n (w:Wld) (i:Int):Wld×Reply :=
 if (z9s w.clock (zc w.consumers i)).2≠0 then noW w (z9s w.clock (zc w.consumers i)).2
 else ({ w with consumers:=zo8 w.consumers i (z9s w.clock (zc w.consumers i)).1,heads:=zbda w.heads i (z9s w.clock (zc w.consumers i)).1 (w.p.Links.Got.get i) },⟨0,0⟩)
def zajp (w:Wld) (i:Int) (back:Bool):Wld×Reply :=
 if back=true then ({ w with p:={ w.p with Links:=zalq w.p.Links i (zbj9 w.heads i) } },⟨0,0⟩)
 else ({ w with consumers:=zo8 w.consumers i { zc w.consumers i with Seen:=za39 w.heads i } },⟨0,0⟩)
def zapo (n:Nat):Packet:=⟨3,1,0,IntKind.i64.wrap (1+(n:Int)),[],[]⟩
def zadm (l:zcl):ByteArray:=if l.Got < ((l.Said.length:Nat):Int) then l.Said.getD l.Got.toNat .empty else (⟨#[]⟩:ByteArray)
def zkq (l:zcl) (forged:Bool):ByteArray:=if forged=true then (zd6 (zapo (zadm l).size)).1 else zadm l
def zef (w:Wld) (i:Int) (back:Bool):zcl:=if back=true then (zc w.consumers i).Out else (zz w.p.Links i).Out
def z6o (w:Wld) (i:Int) (back:Bool):Int:=if back=true then w.p.Links.SSaid.get i else w.consumers.SSaid.get i
def zr2 (w:Wld) (d:Deed):zcl×Int:=zns (zef w d.C d.Back) (IntKind.i64.wrap ((zef w d.C d.Back).Got+1)) (zkq (zef w d.C d.Back) d.Forged) (z6o w d.C d.Back) w.clock
def zr3 (w:Wld) (d:Deed):Wld×Reply :=
  if (zr2 w d).2≠0 then noW w (zr2 w d).2
  else if d.Back=true then
    (if (zrb w.p d.C (zkq (zef w d.C d.Back) d.Forged).data.toList).2≠0 then noW w (zrb w.p d.C (zkq (zef w d.C d.Back) d.Forged).data.toList).2
     else ({ w with p:=(zrb w.p d.C (zkq (zef w d.C d.Back) d.Forged).data.toList).1,consumers:=zo8 w.consumers d.C { zc w.consumers d.C with Out:=(zr2 w d).1 } },⟨0,(zr2 w d).1.Got⟩))
  else (if (z08 (zc w.consumers d.C) (zkq (zef w d.C d.Back) d.Forged).data.toList).2≠0 then noW w (z08 (zc w.consumers d.C) (zkq (zef w d.C d.Back) d.Forged).data.toList).2
     else ({ w with p:={ w.p with Links:=zacd w.p.Links d.C (zr2 w d).1 },consumers:=zo8 w.consumers d.C (z08 (zc w.consumers d.C) (zkq (zef w d.C d.Back) d.Forged).data.toList).1 },⟨0,(zr2 w d).1.Got⟩))
def zapp (w:Wld) (d:Deed):zcl×Int:=if d.Back=true then zq0 (zc w.consumers d.C).Out d.N (w.consumers.STime.get d.C) (w.consumers.SGot.get d.C) else zq0 (zz w.p.Links d.C).Out d.N (w.p.Links.STime.get d.C) (w.p.Links.SGot.get d.C)
def z4i (w:Wld) (d:Deed):Wld×Reply :=
 if (zapp w d).2≠0 then noW w (zapp w d).2 else ({ w with p:=zr1 w.p d.C,consumers:=zo8 w.consumers d.C (zyl (zc w.consumers d.C)) },⟨0,0⟩)
def putW (w:Wld) (i:Int) (r:zb×Int):Wld×Reply:=if r.2≠0 then noW w r.2 else ({ w with consumers:=zo8 w.consumers i r.1 },⟨0,0⟩)
def zhl (w:Wld) (d:Deed):Wld×Reply :=
 if d.Kind < 4∨12 < d.Kind then noW w 3 else if d.C < 0∨2≤d.C then noW w 4 else if d.Kind≠4∧w.consumers.On.get d.C=false then noW w 4
 else if d.Kind=4 then zace w d.C else if d.Kind=7 then z6n w d.C else if d.Kind=8 then zajp w d.C d.Back else if d.Kind=9 then zr3 w d else if d.Kind=10 then z4i w d
 else if d.Kind=11 then putW w d.C (z4f (zc w.consumers d.C) d.V w.clock) else if d.Kind=12 then putW w d.C (zo2 (zc w.consumers d.C) d.V d.N w.clock) else (w,⟨0,0⟩)
def zza (w:Wld) (r:za×Int):Wld×Reply:=if r.2≠0 then noW w r.2 else ({ w with p:=r.1 },⟨0,0⟩)
def zahd (p:za) (v:Int):za×Int:=({ p with Stake:=(zcx p.Stake v 1).1 },(zcx p.Stake v 1).2)
def zasy (w:Wld) (n:Int):Wld×Reply:=if n < 1∨1099511627736 - w.clock < n then noW w 2 else ({ w with clock:=w.clock+n },⟨0,w.clock+n⟩)
def actW (w:Wld) (d:Deed):Wld×Reply :=
 if d.Kind=1 then zza w (zer w.p d.D d.V d.N) else if d.Kind=2 then zza w (zci w.p d.D d.V d.N w.clock) else if d.Kind=3 then zza w (zahd w.p d.V) else if d.Kind=13 then zza w (zw1 w.p d.V d.N)
 else if d.Kind=5 then zasy w d.N else if d.Kind=6 then zyn w else zhl w d
def zd8 (w:Wld):Wld:={ w with deeds:=w.deeds+1 }
def doW (w:Wld) (d:Deed):Wld×Reply:=if 600≤w.deeds then noW w 6 else actW (zd8 w) d
def newW:Wld:=⟨0,zapb,default,default,0⟩
def Pk1 (s:ByteArray):Prop:=∃ q,zf1 q=0∧q.Kind=1∧s=txt (z4a q)
def PkB (s:ByteArray):Prop:=∃ q,zf1 q=0∧q.Kind≠1∧s=txt (z4a q)
structure ConsW (w:Wld) (i:Int):Prop where
 good:zjs (zc w.consumers i)=true
 height:(zc w.consumers i).Height≤w.deeds
 time:(zc w.consumers i).Time≤w.clock
 size:(((zc w.consumers i).Pending.length+(zc w.consumers i).Ripes.length:Nat):Int)≤w.deeds
 on:(zc w.consumers i).On=w.p.Links.On.get i
 gone:(zc w.consumers i).Gone=w.p.Links.Gone.get i
 told:∀ s,s∈(zz w.p.Links i).Out.Said→Pk1 s
 said:∀ s,s∈(zc w.consumers i).Out.Said→PkB s
 fresh:w.p.Links.On.get i=false→w.p.Links.Gone.get i=false→zc w.consumers i=default∧(zz w.p.Links i).Out.Said=[]
structure OkW (w:Wld):Prop where
 d0:0≤w.deeds
 d1:w.deeds≤600
 t0:0≤w.clock
 t1:w.clock≤1099511627736
 p:GoodX w.p
 ph:w.p.Height≤w.deeds
 pt:w.p.Time≤w.clock
 pq:((w.p.Queue.length:Nat):Int)≤w.deeds
 c:∀ i:Int,0≤i∧i < 2→ConsW w i
theorem OkW.pr {w:Wld} (h:OkW w):zao w.p=true:=goodPr_iff.2 ⟨h.p,by have:=h.ph;have:=h.d1;omega⟩
theorem OkW.fit {w:Wld} (h:OkW w):FitPr 140737488351232 w.p:=fitX h.p (by omega) (by have:=h.pq;have:=h.d1;omega)
theorem za4c {c:zb} (h:zjs c=true) {n:Nat} (hn:n≤1000000) (hs:c.Pending.length+c.Ripes.length≤n):FitC 140737488351232 c:=by
 obtain ⟨g1,g2,g3,g4,g5⟩:=zcy h
 have e1:=zj9 g3 (by omega)
 have e2:c.Out.Said.length=c.Out.Due.length:=g2.1
 have e3:c.Out.Said.length≤400:=g2.2.1
 exact ⟨by omega,by omega,by omega,by omega,by omega,fun p hp=>by have:=zab9 (z6f g5 p hp).1;omega⟩
theorem ConsW.fit {w:Wld} {i:Int} (h:ConsW w i) (hd:w.deeds≤600):FitC 140737488351232 (zc w.consumers i) :=
 za4c h.good (n:=600) (by omega) (by have:=h.size;omega)
structure SameL (p q:za) (i:Int):Prop where
 on:p.Links.On.get i=q.Links.On.get i
 gone:p.Links.Gone.get i=q.Links.Gone.get i
 said:(zz p.Links i).Out.Said=(zz q.Links i).Out.Said
theorem SameL.refl (p:za) (i:Int):SameL p p i:=⟨rfl,rfl,rfl⟩
theorem SameL.of {p q:za} {i:Int} (h:zz p.Links i=zz q.Links i):SameL p q i:=⟨congrArg Link.On h,congrArg Link.Gone h,by rw[h]⟩
theorem ConsW.more {w w':Wld} {i:Int} (h:ConsW w i) (hc:zc w'.consumers i=zc w.consumers i) (hl:SameL w'.p w.p i) (hd:w.deeds≤w'.deeds) (ht:w.clock≤w'.clock):ConsW w' i:=by
 obtain ⟨e1,e2,e3⟩:=hl
 obtain ⟨a1,a2,a3,a4,a5,a6,a7,a8,a9⟩:=h
 refine ⟨by rw[hc];exact a1,by rw[hc];omega,by rw[hc];omega,by rw[hc];omega,by rw[hc,e1];exact a5,by rw[hc,e2];exact a6,by rw[e3];exact a7,by rw[hc];exact a8,?_⟩
 rw[e1,e2,hc,e3];exact a9
theorem znu {w:Wld} (h:OkW w) (hd:w.deeds < 600):OkW (zd8 w) :=
 ⟨by have:=h.d0;show 0≤w.deeds+1;omega,by show w.deeds+1≤600;omega,h.t0,h.t1,h.p,by have:=h.ph;show w.p.Height≤w.deeds+1;omega,h.pt,by have:=h.pq;show ((w.p.Queue.length:Nat):Int)≤w.deeds+1;omega,
  fun i hi=>(h.c i hi).more rfl (.refl _ _) (by show w.deeds≤w.deeds+1;omega) (by exact Int.le_refl _)⟩
theorem zasz:OkW newW:=by
 have g:GoodX zapb:=(goodPr_iff.1 zaph).1
 refine ⟨by decide,by decide,by decide,by decide,g,by decide,by decide,by decide,fun i hi=>?_⟩
 have hc:zc newW.consumers i=default:=by rcases (show i=0∨i=1 by omega) with rfl | rfl<;>rfl
 have hl:zz newW.p.Links i=default:=by rcases (show i=0∨i=1 by omega) with rfl | rfl<;>rfl
 have e1:newW.p.Links.On.get i=false:=congrArg Link.On hl
 have e2:newW.p.Links.Gone.get i=false:=congrArg Link.Gone hl
 refine ⟨by rw[hc];decide,by rw[hc];decide,by rw[hc];decide,by rw[hc];decide,by rw[hc,e1];rfl,by rw[hc,e2];rfl,(by rw[hl];intro s hs;cases hs),(by rw[hc];intro s hs;cases hs),fun _ _=>⟨hc,by rw[hl];rfl⟩⟩
theorem zahe {w:Wld} (h:OkW w) {p:za} (hp:GoodX p) (hH:p.Height=w.p.Height) (hT:p.Time=w.p.Time) (hQ:p.Queue.length=w.p.Queue.length) (hl:∀ i:Int,0≤i∧i < 2→SameL p w.p i):OkW { w with p:=p } :=
 ⟨h.d0,h.d1,h.t0,h.t1,hp,by rw[hH];exact h.ph,by rw[hT];exact h.pt,by rw[hQ];exact h.pq,fun i hi=>(h.c i hi).more rfl (hl i hi) (Int.le_refl _) (Int.le_refl _)⟩
theorem zacf {p:za} (h:GoodX p) {s:Stake} (hs:GoodS s):GoodX { p with Stake:=s }:=⟨hs,h.2.1,h.2.2.1,h.2.2.2.1,h.2.2.2.2.1,h.2.2.2.2.2⟩
theorem zacg {w:Wld} (h:OkW w) {s:Stake} (hs:GoodS s):OkW { w with p:={ w.p with Stake:=s } }:=zahe h (zacf h.p hs) rfl rfl rfl fun _ _=>⟨rfl,rfl,rfl⟩
theorem z6p {w:Wld} (h:OkW w) {r:za×Int} (hr:r.2=0→OkW { w with p:=r.1 }):OkW (zza w r).1:=by
 unfold zza
 by_cases e:r.2=0
 ·rw[if_neg (by simpa using e)];exact hr e
 ·rw[if_pos e];exact h
theorem zajq {w:Wld} (h:OkW w) (d v n:Int):OkW (zza w (zer w.p d v n)).1:=by
 refine z6p h fun h0=>?_
 unfold zer at h0 ⊢
 rw[if_pos h.pr] at h0 ⊢
 by_cases e:(zez w.p.Stake d v n).2=0
 ·rw[if_neg (by simpa using e)];exact zacg h (zag1 e)
 ·rw[if_pos e] at h0;exact absurd h0 e
theorem zalr {p:za} (h:GoodX p):GoodX { p with Links:=zaje p.Links }:=by
 have hlk:∀ j:Int,0≤j∧j < 2→LkX { p with Links:=zaje p.Links } j:=by
  intro j hj
  obtain ⟨a1,a2,a3,a4,a5,a6⟩:=h.lk hj
  exact ⟨a1,a2,a3,a4,a5,a6⟩
 exact ⟨h.1,h.2.1,h.2.2.1,okLk_iff.2 (hlk 0 (by omega)),okLk_iff.2 (hlk 1 (by omega)),h.2.2.2.2.2⟩
theorem zadn {w:Wld} (h:OkW w) (d v k:Int):OkW (zza w (zci w.p d v k w.clock)).1:=by
 refine z6p h fun h0=>?_
 unfold zci at h0 ⊢
 have ht:zao w.p=true∧0≤w.clock∧w.clock≤1099511627776:=⟨h.pr,h.t0,by have:=h.t1;omega⟩
 rw[if_pos ht] at h0 ⊢
 by_cases e:(zbr w.p.Stake d v k (zadi w.p w.clock)).2=0
 ·rw[if_neg (by simpa using e)]
  have g:=zab1 e
  exact zahe h (zacf (zalr h.p) g) rfl rfl rfl fun _ _=>⟨rfl,rfl,rfl⟩
 ·rw[if_pos e] at h0;exact absurd h0 e
theorem zapq {w:Wld} (h:OkW w) (v:Int):OkW (zza w (zahd w.p v)).1 :=
 z6p h fun _=>zacg h (zym h.p.1 v (.inr (.inl rfl)))
theorem zaya {w:Wld} (h:OkW w) (v n:Int):OkW (zza w (zw1 w.p v n)).1:=by
 refine z6p h fun h0=>?_
 unfold zw1 at h0 ⊢
 rw[if_neg (by rw[h.pr];simp)] at h0 ⊢
 by_cases h1:0≤v∧v < 6
 ·rw[if_pos h1] at h0 ⊢
  by_cases h2:1≤n∧n≤w.p.Height
  ·rw[if_pos h2] at h0 ⊢
   by_cases h3:w.p.Stake.Validators.Dead.get v=true
   ·rw[if_pos h3] at h0;cases h0
   ·rw[if_neg h3];exact zacg h (zym (z09 h.p.1 v n 50) v (.inr (.inr rfl)))
  ·rw[if_neg h2] at h0;cases h0
 ·rw[if_neg h1] at h0;cases h0
theorem zayb {w:Wld} (h:OkW w) (n:Int):OkW (zasy w n).1:=by
 unfold zasy
 split
 ·exact h
 ·rename_i hn
  have:=h.t0;have:=h.t1;have:=h.pt
  exact ⟨h.d0,h.d1,by show 0≤w.clock+n;omega,by show w.clock+n≤_;omega,h.p,h.ph,by show w.p.Time≤w.clock+n;omega,h.pq,fun i hi=>(h.c i hi).more rfl (.refl _ _) (Int.le_refl _) (by show w.clock≤w.clock+n;omega)⟩
theorem zanl {M:Int} (hM:0≤M):∀ {l:List Power},(∀ q,q∈l→q.N≤M)→∀ v,zcv l v≤M
 | [],_,v=>by simpa[zcv] using hM
 | q::l,h,v=>by
  simp only[zcv]
  split
  ·exact h q (List.mem_cons_self ..)
  ·exact zanl hM (fun q hq=>h q (List.mem_cons_of_mem _ hq)) v
theorem zanm {M:Int}:∀ {d:List Power} {v n:Int},n≤M→(∀ q,q∈d→q.N≤M)→z0x d v n≤M
 | [],v,n,hn,_=>hn
 | q::d,v,n,hn,h=>by
  show z0x d v (if q.V=v then q.N else n)≤M
  refine zanm ?_ (fun q hq=>h q (List.mem_cons_of_mem _ hq))
  split
  ·exact h q (List.mem_cons_self ..)
  ·exact hn
theorem zayc {a d:List Power} (ha:zv 1 (-1) a=true) (hd:zv 0 (-1) d=true):zv 1 (-1) (z0z a d)=true :=
 zax1 fun v=>zanm (zanl (by omega) (fun q hq=>(zox (by omega) ha (by omega) q hq).2.2.2) _) (fun q hq=>(zox (by omega) hd (by omega) q hq).2.2.2)
structure zapr (c:zb):Prop where
 set:zv 1 (-1) c.Set=true
 ripes:c.Ripes.all zmi=true
 id0:0≤c.Id
 id1:c.Id≤1099511627776
theorem zas0 {now:Int} (hn:0≤now∧now≤1099511627776) {c:zb} (h:zapr c) {p:Packet} (hp:zkd p=true):zapr (zq1 now c p):=by
 rw[zyk]
 obtain ⟨g1,g2,_⟩:=z6f (l:=[p]) (by simp[hp]) p (by simp)
 have f:=zoz g1
 refine ⟨zayc h.set f.2.2.2.2.2.2.2.2.1,?_,by show 0≤p.Id;omega,f.2.2.2.1⟩
 show (c.Ripes++[(⟨p.Id,IntKind.i64.wrap (now+15)⟩:Ripe)]).all zmi=true
 rw[List.all_append,h.ripes]
 have:zmi (⟨p.Id,IntKind.i64.wrap (now+15)⟩:Ripe)=true:=by
  unfold zmi
  simp only[yy7,decide_eq_true_eq]
  rw[zf (by omega) (by omega)]
  exact ⟨⟨f.2.2.1,f.2.2.2.1⟩,by omega⟩
 simp[this]
theorem zae4 {now:Int} (hn:0≤now∧now≤1099511627776):∀ {l:List Packet} {c:zb},zapr c→l.all zkd=true→zapr (l.foldl (zq1 now) c)
 | [],_,h,_=>h
 | p::l,c,h,hl=>by
  rw[List.all_cons,yy7] at hl
  exact zae4 (c:=zq1 now c p) hn (zas0 hn h hl.1) hl.2
def matP (r:Ripe):Packet:=⟨2,r.Id,0,0,[],[]⟩
def matT (r:Ripe):ByteArray:=txt (z4a (matP r))
theorem zajr {r:Ripe} (h:zmi r=true):zf1 (matP r)=0:=by
 unfold zmi at h
 simp only[yy7,decide_eq_true_eq] at h
 exact zasg h.1.1 h.1.2
theorem zach {now:Int} (hn:0≤now∧now≤1099511627776):∀ (rs:List Ripe) (c:zb),c.Ripes=rs→zdv c.Out→rs.all zmi=true →
  ∃ k,k≤rs.length∧zp9 now rs c={ c with Ripes:=rs.drop k,Out:={ c.Out with Said:=c.Out.Said++(rs.take k).map matT,Due:=c.Out.Due++List.replicate k (now+40) } } ∧
   (∀ r,r∈rs.take k→r.Due≤now)∧(k=rs.length∨(∃ r,rs[k]?=some r∧now < r.Due)∨c.Out.Closed=true∨400≤c.Out.Said.length+k)∧c.Out.Said.length+k≤400
 | [],c,hr,hg,_=>⟨0,Nat.le_refl _,by
   show c={ c with Ripes:=[],Out:={ c.Out with Said:=c.Out.Said++[],Due:=c.Out.Due++[] } }
   rw[List.append_nil,List.append_nil,← hr],by simp,.inl rfl,by have:c.Out.Said.length≤400:=hg.2.1;omega⟩
 | r::rs,c,hr,hg,ha=>by
  have h400:c.Out.Said.length≤400:=hg.2.1
  rw[List.all_cons,yy7] at ha
  have hstop:(r.Due≤now→c.Out.Closed=true∨400≤c.Out.Said.length)→zp9 now (r::rs) c=c→∃ k,k≤(r::rs).length∧zp9 now (r::rs) c={ c with Ripes:=(r::rs).drop k,Out:={ c.Out with Said:=c.Out.Said++((r::rs).take k).map matT,Due:=c.Out.Due++List.replicate k (now+40) } } ∧
    (∀ q,q∈(r::rs).take k→q.Due≤now)∧(k=(r::rs).length∨(∃ q,(r::rs)[k]?=some q∧now < q.Due)∨c.Out.Closed=true∨400≤c.Out.Said.length+k)∧c.Out.Said.length+k≤400:=by
   intro h1 h2
   refine ⟨0,Nat.zero_le _,by rw[h2];simp[← hr],by simp,?_,by omega⟩
   by_cases hd:r.Due≤now
   ·rcases h1 hd with k | k
    ·exact .inr (.inr (.inl k))
    ·exact .inr (.inr (.inr (by omega)))
   ·exact .inr (.inl ⟨r,rfl,by omega⟩)
  by_cases hd:r.Due≤now
  ·by_cases hc:c.Out.Closed=true∨400≤c.Out.Said.length
   ·refine hstop (fun _=>hc) ?_
    have e0:(zty ⟨2,r.Id,0,0,[],[]⟩ now c).1≠0:=by
     intro e
     obtain ⟨_,k,_⟩:=zasf e
     obtain ⟨_,_,k1,k2,_⟩:=zale k
     rcases hc with hc | hc
     ·rw[hc] at k1;cases k1
     ·omega
    unfold zp9
    rw[if_pos hd,if_pos e0]
   ·have hc1:c.Out.Closed=false:=Bool.eq_false_iff.2 (fun h=>hc (.inl h))
    have hc2:c.Out.Said.length < 400:=by have:¬ 400≤c.Out.Said.length:=fun h=>hc (.inr h);omega
    have hw:IntKind.i64.wrap (now+40)=now+40:=zf (by omega) (by omega)
    have hs:=zaxy (p:=matP r) (now:=now) (c:=c) (zajr ha.1) hg (by rw[hw];omega) hc1 hc2
    rw[hw] at hs
    obtain ⟨c',hc'⟩:∃ c':zb,c'={ c with Ripes:=rs,Out:={ c.Out with Said:=c.Out.Said++[matT r],Due:=c.Out.Due++[now+40] } }:=⟨_,rfl⟩
    have hstep:zp9 now (r::rs) c=zp9 now rs c':=by
     have hs':zty ⟨2,r.Id,0,0,[],[]⟩ now c=_:=hs
     rw[zp9,if_pos hd,hs',if_neg (by simp),hc']
     rfl
    have hg':zdv c'.Out:=by rw[hc'];exact zaew hg (by omega) hc2
    obtain ⟨k,k1,k2,k3,k4,k5⟩:=zach hn rs c' (by rw[hc']) hg' ha.2
    have l1:c'.Out.Said.length=c.Out.Said.length+1:=by rw[hc'];simp
    refine ⟨k+1,by simp only[List.length_cons];omega,?_,?_,?_,by omega⟩
    ·rw[hstep,k2,hc']
     simp only[List.drop_succ_cons,List.take_succ_cons,List.map_cons,List.append_assoc,List.singleton_append,List.replicate_succ]
    ·intro q hq
     rw[List.take_succ_cons] at hq
     rcases List.mem_cons.1 hq with rfl | hq
     ·exact hd
     ·exact k3 q hq
    ·rcases k4 with k4 | k4 | k4 | k4
     ·exact .inl (by simp only[List.length_cons];omega)
     ·exact .inr (.inl (by simpa using k4))
     ·exact .inr (.inr (.inl (by rw[hc'] at k4;exact k4)))
     ·exact .inr (.inr (.inr (by omega)))
  ·exact hstop (fun h=>absurd h hd) (by unfold zp9;rw[if_neg hd])
theorem zaps {l:zcl} (h:zdv l) {t:List ByteArray} {n u:Int} (hu:0≤u) (hl:l.Said.length+t.length≤400):zdv { l with Said:=l.Said++t,Due:=l.Due++List.replicate t.length u }:=by
 obtain ⟨g1,g2,g3,g4,g5⟩:=h
 refine ⟨by simp[g1],by simp only[yy6];omega,g3,by simp only[yy6];omega,?_⟩
 simp only[List.any_append,g5,Bool.false_or]
 rw[List.any_eq_false]
 intro x hx
 rw[List.eq_of_mem_replicate hx]
 simp only[decide_eq_true_eq];omega
theorem zapt {now:Int} {c:zb} (hg:zjs c=true) (ho:c.On=true) (ht:c.Time≤now∧now≤1099511627776) (hh:c.Height+1 < 1099511627776) :
  (z9s now c).2=0∧∃ m k,m=c.Pending.foldl (zq1 now) { c with Height:=c.Height+1,Time:=now }∧zapr m∧m.Ripes.length=c.Ripes.length+c.Pending.length∧k≤m.Ripes.length ∧
   (z9s now c).1={ m with Pending:=[],Ripes:=m.Ripes.drop k,Out:={ c.Out with Said:=c.Out.Said++(m.Ripes.take k).map matT,Due:=c.Out.Due++List.replicate k (now+40) } } ∧
   m.On=c.On∧m.Gone=c.Gone∧m.Height=c.Height+1∧m.Time=now∧m.Out=c.Out∧(∀ r,r∈m.Ripes.take k→r.Due≤now) ∧
   (k=m.Ripes.length∨(∃ r,m.Ripes[k]?=some r∧now < r.Due)∨c.Out.Closed=true∨400≤c.Out.Said.length+k)∧c.Out.Said.length+k≤400∧zjs (z9s now c).1=true:=by
 obtain ⟨g1,g2,g3,g4,g5⟩:=zcy hg
 have hw:IntKind.i64.wrap (c.Height+1)=c.Height+1:=zf (by have:=g1.2;omega) (by have:=g1.2;omega)
 have hn0:0≤now:=by have:=g1.2.2.2.1;omega
 have he:=zaxz (now:=now) hg ho ht.1 ht.2
 rw[hw] at he
 obtain ⟨m,hm⟩:∃ m,m=c.Pending.foldl (zq1 now) { c with Height:=c.Height+1,Time:=now }:=⟨_,rfl⟩
 rw[← hm] at he
 have hpm:zapr m:=by rw[hm];exact zae4 ⟨hn0,ht.2⟩ ⟨g3,g4,g1.2.2.2.2.2.1,g1.2.2.2.2.2.2⟩ g5
 obtain ⟨f1,f2,f3,f4,f5,f6⟩:=zvy (now:=now) c.Pending { c with Height:=c.Height+1,Time:=now }
 rw[← hm] at f1 f2 f3 f4 f5 f6
 obtain ⟨k,k1,k2,k3,k4,k5⟩:=zach (now:=now) ⟨hn0,ht.2⟩ m.Ripes { m with Pending:=[] } rfl (by show zdv m.Out;rw[f2];exact g2) hpm.ripes
 replace f2:m.Out=c.Out:=f2
 simp only[f2] at k4 k5
 have hfin:(z9s now c).1={ m with Pending:=[],Ripes:=m.Ripes.drop k,Out:={ c.Out with Said:=c.Out.Said++(m.Ripes.take k).map matT,Due:=c.Out.Due++List.replicate k (now+40) } }:=by
  rw[he]
  show zp9 now m.Ripes { m with Pending:=[] }=_
  rw[k2]
  simp only[f2]
 refine ⟨by rw[he],m,k,hm,hpm,f1,k1,hfin,f3,f4,f5,f6,f2,k3,k4,k5,?_⟩
 rw[hfin]
 have hl:((m.Ripes.take k).map matT).length=k:=by rw[List.length_map,List.length_take];omega
 refine zur ⟨by show (m.On&&m.Gone)=false;rw[f3,f4];exact g1.1,by show 0≤m.Height;rw[f5];show 0≤c.Height+1;have:=g1.2;omega,?_,by show 0≤m.Time;rw[f6];exact hn0,by show m.Time≤_;rw[f6];exact ht.2,hpm.id0,hpm.id1⟩ ?_ hpm.set ?_ rfl
 ·show m.Height < _;rw[f5];show c.Height+1 < _
  exact hh
 ·have:=zaps (n:=0) g2 (t:=(m.Ripes.take k).map matT) (u:=now+40) (by omega) (by rw[hl];exact k5)
  rw[hl] at this
  exact this
 ·show (m.Ripes.drop k).all zmi=true
  rw[List.all_eq_true]
  intro r hr
  exact List.all_eq_true.1 hpm.ripes r (List.mem_of_mem_drop hr)
theorem zaci {w w':Wld} (h:OkW w) (hd:w.deeds < 600) (e1:w'.deeds=w.deeds+1) (e2:w'.clock=w.clock) (p:GoodX w'.p) (ph:w'.p.Height≤w.deeds+1) (pt:w'.p.Time≤w.clock) (pq:((w'.p.Queue.length:Nat):Int)≤w.deeds+1)
  {i:Int} (ci:ConsW w' i) (cj:∀ j:Int,0≤j∧j < 2→j≠i→zc w'.consumers j=zc w.consumers j∧SameL w'.p w.p j):OkW w':=by
 have d0:=h.d0
 refine ⟨by omega,by omega,by rw[e2];exact h.t0,by rw[e2];exact h.t1,p,by omega,by omega,by omega,fun j hj=>?_⟩
 by_cases e:j=i
 ·rw[e];exact ci
 ·obtain ⟨c1,c2⟩:=cj j hj e
  exact (h.c j hj).more c1 c2 (by omega) (by omega)
theorem zahf {w w':Wld} (h:OkW w) (hd:w.deeds < 600) (e1:w'.deeds=w.deeds+1) (e2:w'.clock=w.clock) (e3:w'.p=w.p) {i:Int} (hi:0≤i∧i < 2) {c:zb} (hc:w'.consumers=zo8 w.consumers i c)
  (good:zjs c=true) (height:c.Height≤w.deeds+1) (time:c.Time≤w.clock) (size:((c.Pending.length+c.Ripes.length:Nat):Int)≤w.deeds+1) (on:c.On=(zc w.consumers i).On) (gone:c.Gone=(zc w.consumers i).Gone)
  (said:∀ s,s∈c.Out.Said→PkB s) (ho:(zc w.consumers i).On=true):OkW w':=by
 have hw:=h.c i hi
 have hci:zc w'.consumers i=c:=by rw[hc,ztt hi]
 refine zaci (i:=i) h hd e1 e2 (by rw[e3];exact h.p) (by rw[e3];have:=h.ph;omega) (by rw[e3];exact h.pt) (by rw[e3];have:=h.pq;omega) ?_ fun j hj hji=>⟨by rw[hc,zqb hi hj hji],by rw[e3];exact .refl _ _⟩
 have on':w.p.Links.On.get i=true:=by rw[← hw.on];exact ho
 refine ⟨by rw[hci];exact good,by rw[hci,e1];exact height,by rw[hci,e2];exact time,by rw[hci,e1];exact size,by rw[hci,e3,on];exact hw.on,by rw[hci,e3,gone];exact hw.gone,by rw[e3];exact hw.told,by rw[hci];exact said,fun k=>?_⟩
 rw[e3,on'] at k;cases k
theorem zas1 {a b:ByteArray} (h:a.toList=b.toList):a=b:=by
 rw[ByteArray.toList_eq,ByteArray.toList_eq] at h
 obtain ⟨⟨a⟩⟩:=a
 obtain ⟨⟨b⟩⟩:=b
 simp only at h
 rw[h]
theorem za4d {r:Ripe} (h:zmi r=true):PkB (matT r):=⟨matP r,zajr h,by unfold matP;simp,rfl⟩
theorem zals {w:Wld} (h:OkW w) (hd:w.deeds < 600) {i:Int} (hi:0≤i∧i < 2) (ho:(zc w.consumers i).On=true):OkW (z6n (zd8 w) i).1:=by
 have hc:=h.c i hi
 have h1:=h.t1
 have hh:=hc.height
 obtain ⟨e0,m,k,hm,hpm,hl,hk,hf,f1,f2,f3,f4,f5,f6,f7,f8,hg⟩:=zapt hc.good ho ⟨hc.time,by omega⟩ (by omega)
 unfold z6n
 rw[if_neg (by show ¬ (z9s w.clock (zc w.consumers i)).2≠0;rw[e0];simp)]
 refine zahf h hd rfl rfl rfl hi (c:=(z9s w.clock (zc w.consumers i)).1) rfl hg ?_ ?_ ?_ ?_ ?_ ?_ ho
 all_goals rw[hf]
 ·show m.Height≤_;rw[f3];omega
 ·show m.Time≤_;rw[f4];omega
 ·have:=hc.size
  simp only[List.length_nil,List.length_drop]
  omega
 ·exact f1
 ·exact f2
 ·intro s hs
  rcases List.mem_append.1 hs with hs | hs
  ·exact hc.said s hs
  ·obtain ⟨r,hr,rfl⟩:=List.mem_map.1 hs
   exact za4d (List.all_eq_true.1 hpm.ripes r (List.mem_of_mem_take hr))
theorem zas2 {c:zb} (hg:zjs c=true) {q:Packet} (hq:q.Kind≠1) {now:Int} (h:(zty q now c).1=0) :
  zf1 q=0∧0≤IntKind.i64.wrap (now+40)∧c.Out.Closed=false∧c.Out.Said.length < 400∧(zty q now c).2={ c with Out:={ c.Out with Said:=c.Out.Said++[txt (z4a q)],Due:=c.Out.Due++[IntKind.i64.wrap (now+40)] } }∧zjs (zty q now c).2=true:=by
 obtain ⟨k1,k2,k3⟩:=zasf h
 obtain ⟨l1,l2,l3,l4,_⟩:=zale k2
 obtain ⟨g1,g2,g3,g4,g5⟩:=zcy hg
 refine ⟨k1,l2,l3,l4,by rw[k3],?_⟩
 rw[k3]
 exact zur g1 (zaew l1 l2 l4) g3 g4 g5
theorem zas3 {w w':Wld} (h:OkW w) (hd:w.deeds < 600) (e1:w'.deeds=w.deeds+1) (e2:w'.clock=w.clock) (e3:w'.p=w.p) {i:Int} (hi:0≤i∧i < 2) (ho:(zc w.consumers i).On=true) {q:Packet} (hq:q.Kind≠1) (hs:(zty q w.clock (zc w.consumers i)).1=0) {f:A6 Bool}
  (hc:w'.consumers=zo8 w.consumers i { (zty q w.clock (zc w.consumers i)).2 with Flags:=f }):OkW w':=by
 have hw:=h.c i hi
 obtain ⟨s1,s2,s3,s4,s5,s6⟩:=zas2 hw.good hq hs
 obtain ⟨g1,g2,g3,g4,g5⟩:=zcy s6
 have hz:=hw.size;have hh:=hw.height;have ht:=hw.time
 refine zahf h hd e1 e2 e3 hi hc (zur g1 g2 g3 g4 g5) ?_ ?_ ?_ ?_ ?_ ?_ ho
 all_goals rw[s5]
 ·show (zc w.consumers i).Height≤_;omega
 ·exact ht
 ·show (((zc w.consumers i).Pending.length+(zc w.consumers i).Ripes.length:Nat):Int)≤_;omega
 ·intro s hs
  rcases List.mem_append.1 hs with hs | hs
  ·exact hw.said s hs
  ·rw[List.mem_singleton.1 hs];exact ⟨q,s1,hq,rfl⟩
theorem zann {w:Wld} (h:OkW w) (hd:w.deeds < 600) {i:Int} {r:zb×Int} (hr:r.2=0→OkW { zd8 w with consumers:=zo8 w.consumers i r.1 }):OkW (putW (zd8 w) i r).1:=by
 unfold putW
 by_cases e:r.2=0
 ·rw[if_neg (by simpa using e)];exact hr e
 ·rw[if_pos e];exact znu h hd
theorem zayd {w:Wld} (h:OkW w) (hd:w.deeds < 600) {i:Int} (hi:0≤i∧i < 2) (ho:(zc w.consumers i).On=true) (v:Int):OkW (putW (zd8 w) i (z4f (zc w.consumers i) v w.clock)).1:=by
 refine zann h hd fun h0=>?_
 obtain ⟨_,_,_,_,_,_,_,hs,he⟩:=zax0 h0
 rw[he]
 exact zas3 h hd rfl rfl rfl hi ho (by simp) hs rfl
theorem zapu {w:Wld} (h:OkW w) (hd:w.deeds < 600) {i:Int} (hi:0≤i∧i < 2) (ho:(zc w.consumers i).On=true) (v n:Int):OkW (putW (zd8 w) i (zo2 (zc w.consumers i) v n w.clock)).1:=by
 refine zann h hd fun h0=>?_
 unfold zo2 at h0 ⊢
 by_cases h1:zjs (zc w.consumers i)=false∨w.clock < 0∨1099511627776 < w.clock
 ·rw[if_pos h1] at h0;cases h0
 rw[if_neg h1] at h0 ⊢
 by_cases h2:(zc w.consumers i).On=false∨v < 0∨5 < v
 ·rw[if_pos h2] at h0;cases h0
 rw[if_neg h2] at h0 ⊢
 by_cases h3:n < 1∨(zc w.consumers i).Id < n
 ·rw[if_pos h3] at h0;cases h0
 rw[if_neg h3] at h0 ⊢
 exact zas3 h hd rfl rfl rfl hi ho (q:=⟨4,n,v,maxC (zc w.consumers i) v,[],[]⟩) (by simp) h0 (f:=(zty ⟨4,n,v,maxC (zc w.consumers i) v,[],[]⟩ w.clock (zc w.consumers i)).2.Flags) rfl
theorem zapv {p:za} (h:GoodX p) {i:Int} (hi:0≤i∧i < 2) {l:zcl} (hl:zdv l):GoodX { p with Links:=zacd p.Links i l }:=by
 have hlk:∀ j:Int,0≤j∧j < 2→LkX { p with Links:=zacd p.Links i l } j:=by
  intro j hj
  obtain ⟨a1,a2,a3,a4,a5,a6⟩:=h.lk hj
  refine ⟨a1,a2,a3,a4,?_,a6⟩
  rw[z4h,z7x hi hj]
  split
  ·exact hl
  ·exact a5
 exact ⟨h.1,h.2.1,h.2.2.1,okLk_iff.2 (hlk 0 (by omega)),okLk_iff.2 (hlk 1 (by omega)),h.2.2.2.2.2⟩
theorem zapw {p:za} (h:GoodX p) (i:Int) (s:Head):GoodX { p with Links:=zalq p.Links i s }:=by
 have hlk:∀ j:Int,0≤j∧j < 2→LkX { p with Links:=zalq p.Links i s } j:=by
  intro j hj
  obtain ⟨a1,a2,a3,a4,a5,a6⟩:=h.lk hj
  exact ⟨a1,a2,a3,a4,a5,a6⟩
 exact ⟨h.1,h.2.1,h.2.2.1,okLk_iff.2 (hlk 0 (by omega)),okLk_iff.2 (hlk 1 (by omega)),h.2.2.2.2.2⟩
theorem zas4 {w:Wld} (h:OkW w) (hd:w.deeds < 600) {i:Int} (hi:0≤i∧i < 2) (ho:(zc w.consumers i).On=true) (back:Bool):OkW (zajp (zd8 w) i back).1:=by
 unfold zajp
 have hw:=h.c i hi
 cases back with
 | true =>
  rw[if_pos rfl]
  refine zahe (znu h hd) (zapw h.p i _) rfl rfl rfl fun j hj=>⟨rfl,rfl,?_⟩
  rfl
 | false =>
  rw[if_neg (by simp)]
  obtain ⟨g1,g2,g3,g4,g5⟩:=zcy hw.good
  have hz:=hw.size;have hh:=hw.height
  exact zahf h hd rfl rfl rfl hi rfl (zur g1 g2 g3 g4 g5) (by show (zc w.consumers i).Height≤_;omega) hw.time (by show (((zc w.consumers i).Pending.length+(zc w.consumers i).Ripes.length:Nat):Int)≤_;omega) rfl rfl hw.said ho
theorem zapx {w:Wld} {d:Deed} (h:(zr2 w d).2=0):zdv (zef w d.C d.Back)∧(zef w d.C d.Back).Closed=false∧(zef w d.C d.Back).Got+1≤((zef w d.C d.Back).Said.length:Int)∧(zef w d.C d.Back).Got+1≤z6o w d.C d.Back ∧
  zkq (zef w d.C d.Back) d.Forged=(zef w d.C d.Back).Said.getD (zef w d.C d.Back).Got.toNat .empty∧w.clock < (zef w d.C d.Back).Due.getD (zef w d.C d.Back).Got.toNat 0 ∧
  (zr2 w d).1={ zef w d.C d.Back with Got:=(zef w d.C d.Back).Got+1 }∧zdv (zr2 w d).1:=by
 have hs:(zef w d.C d.Back).Got+1≤z6o w d.C d.Back:=by
  unfold zr2 zns at h
  by_cases h1:¬ zdv (zef w d.C d.Back)
  ·rw[if_pos h1] at h;cases h
  rw[if_neg h1] at h
  have hl:=Classical.not_not.1 h1
  have e4:(zef w d.C d.Back).Said.length≤400:=hl.2.1
  have hw:IntKind.i64.wrap ((zef w d.C d.Back).Got+1)=(zef w d.C d.Back).Got+1:=zf (by have:=hl.2.2.1;omega) (by have:=hl.2.2.2.1;omega)
  rw[hw] at h
  by_cases h2:(zef w d.C d.Back).Closed=true
  ·rw[if_pos h2] at h;cases h
  rw[if_neg h2,if_neg (by simp)] at h
  by_cases h3:z6o w d.C d.Back < (zef w d.C d.Back).Got+1∨((zef w d.C d.Back).Said.length:Int) < (zef w d.C d.Back).Got+1∨((zef w d.C d.Back).Said.getD (zef w d.C d.Back).Got.toNat .empty).toList≠(zkq (zef w d.C d.Back) d.Forged).toList
  ·rw[if_pos h3] at h;cases h
  ·simp only[not_or] at h3;omega
 obtain ⟨h1,h2,h3,h4,h5,h6,h7⟩:=zaod h
 have e4:(zef w d.C d.Back).Said.length≤400:=h1.2.1
 have hw:IntKind.i64.wrap ((zef w d.C d.Back).Got+1)=(zef w d.C d.Back).Got+1:=zf (by have:=h1.2.2.1;omega) (by have:=h1.2.2.2.1;omega)
 rw[hw] at h4
 have he:(zr2 w d).1={ zef w d.C d.Back with Got:=(zef w d.C d.Back).Got+1 }:=by
  unfold zr2
  rw[h7,hw]
 refine ⟨h1,Bool.eq_false_iff.2 h2,h4,hs,?_,h6,he,?_⟩
 ·exact (zas1 h5).symm
 ·rw[he]
  obtain ⟨g1,g2,g3,g4,g5⟩:=h1
  exact ⟨g1,g2,by show 0≤(zef w d.C d.Back).Got+1;omega,h4,g5⟩
theorem zalt {c:zb} (hg:zjs c=true) {s:List UInt8} (h:(z08 c s).2=0):c.On=true∧zf1 (zat s).1=0∧(zat s).1.Kind=1∧(zat s).2=0∧(z08 c s).1={ c with Pending:=c.Pending++[(zat s).1] }∧zjs (z08 c s).1=true:=by
 unfold z08 at h ⊢
 rw[if_neg (by rw[hg];simp)] at h ⊢
 by_cases h1:c.On=false
 ·rw[if_pos h1] at h;cases h
 rw[if_neg h1] at h ⊢
 by_cases h2:(zat s).2=0
 ·rw[if_neg (by simpa using h2)] at h ⊢
  by_cases h3:(zat s).1.Kind=1
  ·rw[if_neg (by simpa using h3)]
   have gp:=zank h2
   refine ⟨by simpa using h1,gp,h3,h2,rfl,?_⟩
   obtain ⟨g1,g2,g3,g4,g5⟩:=zcy hg
   refine zur g1 g2 g3 g4 ?_
   show (c.Pending++[(zat s).1]).all zkd=true
   rw[List.all_append,g5]
   simp[zkd,gp,h3]
  ·rw[if_pos h3] at h;cases h
 ·rw[if_pos h2] at h;exact absurd h h2
theorem zajs {p:za} (hg:zao p=true) {i:Int} {s:List UInt8} (h:(zrb p i s).2=0):(0≤i∧i < 2)∧p.Links.On.get i=true∧zf1 (zat s).1=0∧(zat s).1.Kind≠1∧(zat s).2=0∧(zrb p i s).1={ p with Queue:=p.Queue++[⟨i,(zat s).1⟩] }∧GoodX (zrb p i s).1:=by
 unfold zrb at h ⊢
 rw[if_neg (by rw[hg];simp)] at h ⊢
 by_cases h1:(0≤i∧i < 2)∧p.Links.On.get i=true
 ·rw[if_pos h1] at h ⊢
  by_cases h2:(zat s).2=0
  ·rw[if_neg (by simpa using h2)] at h ⊢
   by_cases h3:(zat s).1.Kind=1
   ·rw[if_pos h3] at h;cases h
   ·rw[if_neg h3]
    have gp:=zank h2
    have hx:=(goodPr_iff.1 hg).1
    refine ⟨h1.1,h1.2,gp,h3,h2,rfl,hx.1,hx.2.1,hx.2.2.1,hx.2.2.2.1,hx.2.2.2.2.1,?_⟩
    show (p.Queue++[_]).all _=true
    rw[List.all_append,yy7]
    refine ⟨hx.2.2.2.2.2,List.all_eq_true.2 fun b hb=>?_⟩
    rw[List.mem_singleton.1 hb]
    exact ask_iff.2 ⟨h1.1,h1.2,gp,h3⟩
  ·rw[if_pos h2] at h;exact absurd h h2
 ·rw[if_neg h1] at h;cases h
theorem zalu {w:Wld} (h:OkW w) (hd:w.deeds < 600) {d:Deed} (hi:0≤d.C∧d.C < 2) (ho:(zc w.consumers d.C).On=true):OkW (zr3 (zd8 w) d).1:=by
 have hw:=h.c d.C hi
 unfold zr3
 by_cases h0:(zr2 w d).2=0
 ·rw[if_neg (by show ¬ (zr2 w d).2≠0;simpa using h0)]
  obtain ⟨f1,f2,f3,f4,f5,f6,f7,f8⟩:=zapx h0
  cases hb:d.Back with
  | true =>
   rw[if_pos rfl]
   rw[hb] at f5
   have e0:zef w d.C true=(zc w.consumers d.C).Out:=rfl
   by_cases h1:(zrb w.p d.C (zkq (zef w d.C true) d.Forged).data.toList).2=0
   ·rw[if_neg (by show ¬ (zrb w.p d.C (zkq (zef w d.C true) d.Forged).data.toList).2≠0;simpa using h1)]
    obtain ⟨q1,q2,q3,q4,q5,q6,q7⟩:=zajs h.pr h1
    obtain ⟨g1,g2,g3,g4,g5⟩:=zcy hw.good
    have hz:=hw.size;have hh:=hw.height;have hp:=h.ph;have hq:=h.pq
    have hr:(zr2 w d).1={ (zc w.consumers d.C).Out with Got:=(zc w.consumers d.C).Out.Got+1 }:=by rw[f7,hb];rfl
    have e6:(zrb (zd8 w).p d.C (zkq (zef (zd8 w) d.C true) d.Forged).data.toList).1={ w.p with Queue:=w.p.Queue++[⟨d.C,(zat (zkq (zef w d.C true) d.Forged).data.toList).1⟩] }:=q6
    simp only[e6]
    refine zaci (i:=d.C) h hd rfl rfl (by rw[← q6];exact q7) (by show w.p.Height≤_;omega) h.pt (by show (((w.p.Queue++[_]).length:Nat):Int)≤_;rw[yy6,yy5];omega) ?_ fun j hj hji=>⟨zqb hi hj hji _,rfl,rfl,rfl⟩
    have hci:zc (zo8 (zd8 w).consumers d.C { zc (zd8 w).consumers d.C with Out:=(zr2 (zd8 w) d).1 }) d.C={ zc w.consumers d.C with Out:=(zr2 w d).1 }:=ztt hi _
    refine ⟨?_,?_,?_,?_,?_,?_,hw.told,?_,fun k=>?_⟩
    ·rw[hci];exact zur g1 f8 g3 g4 g5
    ·rw[hci];show (zc w.consumers d.C).Height≤w.deeds+1;omega
    ·rw[hci];exact hw.time
    ·rw[hci];show (((zc w.consumers d.C).Pending.length+(zc w.consumers d.C).Ripes.length:Nat):Int)≤w.deeds+1;omega
    ·rw[hci];exact hw.on
    ·rw[hci];exact hw.gone
    ·rw[hci];show ∀ s,s∈(zr2 w d).1.Said→PkB s;rw[hr];exact hw.said
    ·have k':w.p.Links.On.get d.C=false:=k
     rw[q2] at k';cases k'
   ·rw[if_pos (by exact h1)];exact znu h hd
  | false =>
   rw[if_neg (by simp)]
   rw[hb] at f5
   by_cases h1:(z08 (zc w.consumers d.C) (zkq (zef w d.C false) d.Forged).data.toList).2=0
   ·rw[if_neg (by show ¬ (z08 (zc w.consumers d.C) (zkq (zef w d.C false) d.Forged).data.toList).2≠0;simpa using h1)]
    obtain ⟨q1,q2,q3,q4,q5,q6⟩:=zalt hw.good h1
    have hz:=hw.size;have hh:=hw.height;have hp:=h.ph;have hq:=h.pq
    have hr:(zr2 w d).1={ (zz w.p.Links d.C).Out with Got:=(zz w.p.Links d.C).Out.Got+1 }:=by rw[f7,hb];rfl
    have on':w.p.Links.On.get d.C=true:=by rw[← hw.on];exact ho
    refine zaci (i:=d.C) h hd rfl rfl (zapv h.p hi f8) (by show w.p.Height≤_;omega) h.pt (by show ((w.p.Queue.length:Nat):Int)≤_;omega) ?_ fun j hj hji=>⟨zqb hi hj hji _,rfl,rfl,?_⟩
    ·have hci:zc (zo8 (zd8 w).consumers d.C (z08 (zc (zd8 w).consumers d.C) (zkq (zef (zd8 w) d.C false) d.Forged).data.toList).1) d.C=(z08 (zc w.consumers d.C) (zkq (zef w d.C false) d.Forged).data.toList).1:=ztt hi _
     refine ⟨?_,?_,?_,?_,?_,?_,?_,?_,fun k=>?_⟩
     ·rw[hci];exact q6
     ·rw[hci,q5];show (zc w.consumers d.C).Height≤w.deeds+1;omega
     ·rw[hci,q5];exact hw.time
     ·rw[hci,q5]
      show ((((zc w.consumers d.C).Pending++[_]).length+(zc w.consumers d.C).Ripes.length:Nat):Int)≤w.deeds+1
      rw[yy6,yy5];omega
     ·rw[hci,q5];exact hw.on
     ·rw[hci,q5];exact hw.gone
     ·show ∀ s,s∈(zz (zacd w.p.Links d.C (zr2 w d).1) d.C).Out.Said→Pk1 s
      rw[z7x hi hi,if_pos rfl,hr];exact hw.told
     ·rw[hci,q5];exact hw.said
     ·have k':w.p.Links.On.get d.C=false:=k
      rw[on'] at k';cases k'
    ·show (zz (zacd w.p.Links d.C (zr2 w d).1) j).Out.Said=_
     rw[z7x hi hj,if_neg hji]
   ·rw[if_pos (by exact h1)];exact znu h hd
 ·rw[if_pos (by exact h0)];exact znu h hd
theorem zalv {w:Wld} (h:OkW w) (hd:w.deeds < 600):OkW (zyn (zd8 w)).1:=by
 have ht:zao w.p=true∧w.p.Time≤w.clock∧w.clock≤1099511627776:=⟨h.pr,h.pt,by have:=h.t1;omega⟩
 unfold zyn
 rw[if_neg (by show ¬ (zn3 w.p w.clock).2.2≠0;rw[zasv ht];simp)]
 obtain ⟨r1,r2,r3,r4,r5,r6,r7,r8⟩:=zax8 ht
 obtain ⟨S,D,M,e,hS,hdn,hl,hm⟩:=z9x ht.1 w.clock
 have hg:=zax7 ht.1 ht.2
 have hp:=h.ph;have hq:=h.pq;have d0:=h.d0
 refine ⟨by show 0≤w.deeds+1;omega,by show w.deeds+1≤600;omega,h.t0,h.t1,hg,by show (zn3 w.p w.clock).1.Height≤w.deeds+1;rw[r1];omega,by show (zn3 w.p w.clock).1.Time≤w.clock;rw[r2];exact Int.le_refl _,by show (((zn3 w.p w.clock).1.Queue.length:Nat):Int)≤w.deeds+1;rw[r5];omega,fun i hi=>?_⟩
 obtain ⟨D',-,hD⟩:=zax9 ht hi
 have hw:=h.c i hi
 have hz:=hw.size;have hh:=hw.height
 have o1:(zn3 w.p w.clock).1.Links.On.get i=w.p.Links.On.get i:=by rw[r6]
 have o2:(zn3 w.p w.clock).1.Links.Gone.get i=w.p.Links.Gone.get i:=by rw[r7]
 refine ⟨hw.good,by show (zc w.consumers i).Height≤w.deeds+1;omega,hw.time,by show (((zc w.consumers i).Pending.length+(zc w.consumers i).Ripes.length:Nat):Int)≤w.deeds+1;omega,hw.on.trans o1.symm,hw.gone.trans o2.symm,?_,hw.said,?_⟩
 ·show ∀ s,s∈(zz (zn3 w.p w.clock).1.Links i).Out.Said→Pk1 s
  rw[← z4h]
  rcases hD with ⟨-,-,-,e4,-⟩ | ⟨-,-,-,-,-,-,-,e8,e9⟩
  ·rw[e4];exact hw.told
  ·rw[e9]
   intro s hs
   rcases List.mem_append.1 hs with hs | hs
   ·exact hw.told s hs
   ·rw[List.mem_singleton.1 hs];exact ⟨_,e8,rfl,rfl⟩
 ·intro k1 k2
  have k1':w.p.Links.On.get i=false:=o1.symm.trans k1
  obtain ⟨c1,c2⟩:=hw.fresh k1' (o2.symm.trans k2)
  refine ⟨c1,?_⟩
  show (zz (zn3 w.p w.clock).1.Links i).Out.Said=[]
  rw[← z4h]
  rcases hD with ⟨-,-,-,e4,-⟩ | ⟨-,-,-,e4,-⟩
  ·rw[e4];exact c2
  ·rw[k1'] at e4;cases e4
theorem z1c {L:Links} {i j H:Int} {T:List Power} {f:Bool} (hi:0≤i∧i < 2) (hj:0≤j∧j < 2):zz (zke L i H T f) j=if j=i then ⟨true,false,H,T,f,[],⟨[],[],0,false⟩,⟨0,0,0,0⟩⟩ else zz L j:=by
 unfold zz zke
 simp only[za2 _ _ hi hj]
 by_cases e:j=i
 ·simp only[if_pos e]
 ·simp only[if_neg e]
theorem z4j {p:za} {i:Int} (h:(zfz p i).2=0):zao p=true∧(0≤i∧i < 2)∧p.Links.Gone.get i=false∧p.Links.On.get i=false∧1≤p.Height∧p.Set.length≠0∧(zfz p i).1=zmj p i (p.Stake.Waits.map (zjt i p.Height)) (z4k p):=by
 unfold zfz at h ⊢
 cases hg:zao p with
 | false=>rw[if_pos hg] at h;cases h
 | true =>
  rw[if_neg (by rw[hg];simp)] at h
  rw[if_neg (by simp)]
  by_cases hi:0≤i∧i < 2
  ·rw[if_pos hi] at h ⊢
   by_cases h1:p.Links.Gone.get i=true
   ·rw[if_pos h1] at h;cases h
   rw[if_neg h1] at h ⊢
   by_cases h2:p.Links.On.get i=true
   ·rw[if_pos h2] at h;cases h
   rw[if_neg h2] at h ⊢
   by_cases h3:p.Height < 1∨p.Set.length=0
   ·rw[if_pos h3] at h;cases h
   rw[if_neg h3]
   simp only[not_or] at h3
   exact ⟨rfl,hi,Bool.eq_false_iff.2 h1,Bool.eq_false_iff.2 h2,by omega,h3.2,rfl⟩
  ·rw[if_neg hi] at h;cases h
theorem zapy {p:za} (hx:GoodX p) {i:Int} (hi:0≤i∧i < 2) (ho:p.Links.On.get i=false):GoodX (zmj p i (p.Stake.Waits.map (zjt i p.Height)) (z4k p)):=by
 obtain ⟨b1,b2,b3,b4,b5,b6,b7⟩:=hx.1
 have hf:∀ w,(zjt i p.Height w).Number=w.Number∧(zjt i p.Height w).D=w.D∧(zjt i p.Height w).V=w.V∧(zjt i p.Height w).Amount=w.Amount∧(zjt i p.Height w).Height=w.Height∧(zjt i p.Height w).Due=w.Due:=by
  intro w;unfold zjt;split<;>exact ⟨rfl,rfl,rfl,rfl,rfl,rfl⟩
 have gs:GoodS { p.Stake with Waits:=p.Stake.Waits.map (zjt i p.Height) }:=by
  refine ⟨b1,⟨b2.1,b2.2.1,by show (p.Stake.Waits.map _).length≤60;rw[List.length_map];exact b2.2.2⟩,b3,z1q (fun w hw=>⟨(hf w).1,(hf w).2.1,(hf w).2.2.1,by rw[(hf w).2.2.2.1];exact hw,(hf w).2.2.2.2.1,(hf w).2.2.2.2.2⟩) b4,b5,?_,b7⟩
  show ztu (p.Stake.Waits.map _)=_
  rw[zag3 (fun w=>(hf w).2.2.2.1)];exact b6
 have hlk:∀ j:Int,0≤j∧j < 2→LkX (zmj p i (p.Stake.Waits.map (zjt i p.Height)) (z4k p)) j:=by
  intro j hj
  obtain ⟨a1,a2,a3,a4,a5,a6⟩:=hx.lk hj
  have el:=z1c (L:=p.Links) (H:=p.Height) (T:=p.Set) (f:=z4k p) hi hj
  by_cases e:j=i
  ·rw[if_pos e] at el
   have z:=hx.2.1.1
   exact ⟨by show ¬ ((zz (zke p.Links i p.Height p.Set (z4k p)) j).On=true∧(zz (zke p.Links i p.Height p.Set (z4k p)) j).Gone=true);rw[el];simp,by show 0≤(zz (zke p.Links i p.Height p.Set (z4k p)) j).Base;rw[el];exact z,
    by show (zz (zke p.Links i p.Height p.Set (z4k p)) j).Base≤p.Height;rw[el];exact Int.le_refl _,by show zv 1 (-1) (zz (zke p.Links i p.Height p.Set (z4k p)) j).Told=true;rw[el];exact hx.2.2.1,
    by show zdv (zz (zke p.Links i p.Height p.Set (z4k p)) j).Out;rw[el];exact zab3,by show z8 (-1) (zz (zke p.Links i p.Height p.Set (z4k p)) j).Done=true;rw[el];rfl⟩
  ·rw[if_neg e] at el
   exact ⟨by show ¬ ((zz (zke p.Links i p.Height p.Set (z4k p)) j).On=true∧(zz (zke p.Links i p.Height p.Set (z4k p)) j).Gone=true);rw[el];exact a1,by show 0≤(zz (zke p.Links i p.Height p.Set (z4k p)) j).Base;rw[el];exact a2,
    by show (zz (zke p.Links i p.Height p.Set (z4k p)) j).Base≤p.Height;rw[el];exact a3,by show zv 1 (-1) (zz (zke p.Links i p.Height p.Set (z4k p)) j).Told=true;rw[el];exact a4,
    by show zdv (zz (zke p.Links i p.Height p.Set (z4k p)) j).Out;rw[el];exact a5,by show z8 (-1) (zz (zke p.Links i p.Height p.Set (z4k p)) j).Done=true;rw[el];exact a6⟩
 refine ⟨gs,hx.2.1,hx.2.2.1,okLk_iff.2 (hlk 0 (by omega)),okLk_iff.2 (hlk 1 (by omega)),List.all_eq_true.2 fun b hb=>ask_iff.2 ?_⟩
 obtain ⟨q1,q2,q3,q4⟩:=hx.ask hb
 refine ⟨q1,?_,q3,q4⟩
 show (p.Links.On.set i true).get b.C=true
 rw[za2 _ _ hi q1]
 split
 ·rfl
 ·exact q2
theorem zas5 {w:Wld} (h:OkW w) (hd:w.deeds < 600) (i:Int):OkW (zace (zd8 w) i).1:=by
 unfold zace
 by_cases h0:(zfz w.p i).2=0
 ·rw[if_neg (by show ¬ (zfz w.p i).2≠0;simpa using h0)]
  obtain ⟨f1,hi,f3,f4,f5,f6,f7⟩:=z4j h0
  have hgb:=zapy h.p hi f4
  have hp:=h.ph;have hq:=h.pq;have d0:=h.d0;have d1:=h.d1
  have e6:(zfz (zd8 w).p i).1=zmj w.p i (w.p.Stake.Waits.map (zjt i w.p.Height)) (z4k w.p):=f7
  simp only[e6]
  refine zaci (i:=i) h hd rfl rfl hgb (by show w.p.Height≤_;omega) h.pt (by show ((w.p.Queue.length:Nat):Int)≤_;omega) ?_ fun j hj hji=>⟨zqb hi hj hji _,.of ?_⟩
  ·have hci:zc (zo8 (zd8 w).consumers i (zwz w.p.Set w.p.Height w.clock)) i=zwz w.p.Set w.p.Height w.clock:=ztt hi _
   have el:=z1c (L:=w.p.Links) (H:=w.p.Height) (T:=w.p.Set) (f:=z4k w.p) hi hi
   rw[if_pos rfl] at el
   have t0:=h.t0;have t1:=h.t1;have z:=h.p.2.1.1
   refine ⟨?_,?_,?_,?_,?_,?_,?_,?_,fun k=>?_⟩
   ·show zjs (zc (zo8 (zd8 w).consumers i (zwz w.p.Set w.p.Height w.clock)) i)=true
    rw[hci]
    exact zur ⟨rfl,by show (0:Int)≤0;omega,by show (0:Int) < _;omega,t0,by show w.clock≤_;omega,z,by show w.p.Height≤_;omega⟩ zab3 h.p.2.2.1 rfl rfl
   ·show (zc (zo8 (zd8 w).consumers i (zwz w.p.Set w.p.Height w.clock)) i).Height≤w.deeds+1
    rw[hci];show (0:Int)≤_;omega
   ·show (zc (zo8 (zd8 w).consumers i (zwz w.p.Set w.p.Height w.clock)) i).Time≤w.clock
    rw[hci];exact Int.le_refl _
   ·show (((zc (zo8 (zd8 w).consumers i (zwz w.p.Set w.p.Height w.clock)) i).Pending.length+(zc (zo8 (zd8 w).consumers i (zwz w.p.Set w.p.Height w.clock)) i).Ripes.length:Nat):Int)≤w.deeds+1
    rw[hci];show ((0:Nat):Int)≤_;omega
   ·show (zc (zo8 (zd8 w).consumers i (zwz w.p.Set w.p.Height w.clock)) i).On=(zz (zke w.p.Links i w.p.Height w.p.Set (z4k w.p)) i).On
    rw[hci,el];rfl
   ·show (zc (zo8 (zd8 w).consumers i (zwz w.p.Set w.p.Height w.clock)) i).Gone=(zz (zke w.p.Links i w.p.Height w.p.Set (z4k w.p)) i).Gone
    rw[hci,el];rfl
   ·show ∀ s,s∈(zz (zke w.p.Links i w.p.Height w.p.Set (z4k w.p)) i).Out.Said→Pk1 s
    rw[el];intro s hs;cases hs
   ·show ∀ s,s∈(zc (zo8 (zd8 w).consumers i (zwz w.p.Set w.p.Height w.clock)) i).Out.Said→PkB s
    rw[hci];intro s hs;cases hs
   ·have k':(zz (zke w.p.Links i w.p.Height w.p.Set (z4k w.p)) i).On=false:=k
    rw[el] at k';cases k'
  ·show zz (zke w.p.Links i w.p.Height w.p.Set (z4k w.p)) j=_
   rw[z1c hi hj,if_neg hji]
 ·rw[if_pos (by exact h0)];exact znu h hd
theorem z2v {L:Links} {i j:Int} (hi:0≤i∧i < 2) (hj:0≤j∧j < 2):zz (zus L i) j=if j=i then { zz L j with On:=false,Gone:=true,Fresh:=false,Done:=[],Out:={ (zz L j).Out with Closed:=true } } else zz L j:=by
 unfold zz zus
 simp only[za2 _ _ hi hj]
 by_cases e:j=i
 ·simp only[if_pos e]
 ·simp only[if_neg e]
theorem zas6 {w:Wld} (h:OkW w) {i:Int} (hi:0≤i∧i < 2) (ho:(zc w.consumers i).On=true):zr1 w.p i=z6l w.p i∧zyl (zc w.consumers i)={ zc w.consumers i with On:=false,Gone:=true,Out:={ (zc w.consumers i).Out with Closed:=true } }:=by
 have on':w.p.Links.On.get i=true:=by rw[← (h.c i hi).on];exact ho
 exact ⟨by unfold zr1;rw[if_pos ⟨h.pr,hi,on'⟩],by unfold zyl;rw[if_neg (by rw[ho];simp)]⟩
theorem zapz {w:Wld} (h:OkW w) (hd:w.deeds < 600) {d:Deed} (hi:0≤d.C∧d.C < 2) (ho:(zc w.consumers d.C).On=true):OkW (z4i (zd8 w) d).1:=by
 unfold z4i
 by_cases h0:(zapp w d).2=0
 ·rw[if_neg (by show ¬ (zapp w d).2≠0;simpa using h0)]
  obtain ⟨f1,f2⟩:=zas6 h hi ho
  have hw:=h.c d.C hi
  have e1:zr1 (zd8 w).p d.C=z6l w.p d.C:=f1
  have e2:zyl (zc (zd8 w).consumers d.C)={ zc w.consumers d.C with On:=false,Gone:=true,Out:={ (zc w.consumers d.C).Out with Closed:=true } }:=f2
  simp only[e1,e2]
  obtain ⟨g1,g2,g3,g4,g5⟩:=zcy hw.good
  have hz:=hw.size;have hh:=hw.height;have hp:=h.ph;have hq:=h.pq
  have hqf:(w.p.Queue.filter (z6k d.C)).length≤w.p.Queue.length:=List.length_filter_le _ _
  have el:=z2v (L:=w.p.Links) hi hi
  rw[if_pos rfl] at el
  refine zaci (i:=d.C) h hd rfl rfl (goodPr_iff.1 (zajn h.pr hi)).1 (by show w.p.Height≤_;omega) h.pt (by show (((w.p.Queue.filter (z6k d.C)).length:Nat):Int)≤_;omega) ?_ fun j hj hji=>⟨zqb hi hj hji _,.of ?_⟩
  ·have hci:=ztt (C:=(zd8 w).consumers) hi { zc w.consumers d.C with On:=false,Gone:=true,Out:={ (zc w.consumers d.C).Out with Closed:=true } }
   refine ⟨?_,?_,?_,?_,?_,?_,?_,?_,fun k k2=>?_⟩
   ·rw[hci];exact zur ⟨rfl,g1.2⟩ g2 g3 g4 g5
   ·rw[hci];show (zc w.consumers d.C).Height≤w.deeds+1;omega
   ·rw[hci];exact hw.time
   ·rw[hci];show (((zc w.consumers d.C).Pending.length+(zc w.consumers d.C).Ripes.length:Nat):Int)≤w.deeds+1;omega
   ·rw[hci];exact (congrArg Link.On el).symm
   ·rw[hci];exact (congrArg Link.Gone el).symm
   ·show ∀ s,s∈(zz (zus w.p.Links d.C) d.C).Out.Said→Pk1 s
    rw[el];exact hw.told
   ·rw[hci];exact hw.said
   ·have k':(zz (zus w.p.Links d.C) d.C).Gone=false:=k2
    rw[el] at k';cases k'
  ·show zz (zus w.p.Links d.C) j=_
   rw[z2v hi hj,if_neg hji]
 ·rw[if_pos (by exact h0)];exact znu h hd
theorem zalw {w:Wld} (h:OkW w) (hd:w.deeds < 600) (d:Deed):OkW (zhl (zd8 w) d).1:=by
 have hm:=znu h hd
 unfold zhl
 by_cases c1:d.Kind < 4∨12 < d.Kind
 ·rw[if_pos c1];exact hm
 rw[if_neg c1]
 by_cases c2:d.C < 0∨2≤d.C
 ·rw[if_pos c2];exact hm
 rw[if_neg c2]
 have hi:0≤d.C∧d.C < 2:=by omega
 by_cases c3:d.Kind≠4∧(zd8 w).consumers.On.get d.C=false
 ·rw[if_pos c3];exact hm
 rw[if_neg c3]
 by_cases c4:d.Kind=4
 ·rw[if_pos c4];exact zas5 h hd _
 rw[if_neg c4]
 have ho:(zc w.consumers d.C).On=true:=by
  cases e:(zc w.consumers d.C).On with
  | true=>rfl
  | false=>exact absurd ⟨c4,e⟩ c3
 repeat' split
 ·exact zals h hd hi ho
 ·exact zas4 h hd hi ho _
 ·exact zalu h hd hi ho
 ·exact zapz h hd hi ho
 ·exact zayd h hd hi ho _
 ·exact zapu h hd hi ho _ _
 ·exact hm
theorem za4e {w:Wld} (h:OkW w) (hd:w.deeds < 600) (d:Deed):OkW (actW (zd8 w) d).1:=by
 have hm:=znu h hd
 unfold actW
 repeat' split
 ·exact zajq hm _ _ _
 ·exact zadn hm _ _ _
 ·exact zapq hm _
 ·exact zaya hm _ _
 ·exact zayb hm _
 ·exact zalv h hd
 ·exact zalw h hd d
theorem za0u {w:Wld} (h:OkW w) (d:Deed):OkW (doW w d).1:=by
 unfold doW
 split
 ·exact h
 ·rename_i hd;exact za4e h (by omega) d
theorem za4f:z0u=some newW:=by
 rw[z0u,z39,Tr.rb zapc,Tr.rl];rfl
theorem zae5 {w:Wld} (h:OkW w) {i:Int} (hi:0≤i∧i < 2) (b:Bool):(zadm (zef w i b)).size≤71:=by
  have hw:=h.c i hi
  unfold zadm
  split
  · rename_i hg
    have hmem:(zef w i b).Said.getD (zef w i b).Got.toNat .empty∈(zef w i b).Said:=by
      by_cases h0:(zef w i b).Got.toNat < (zef w i b).Said.length
      · exact zbu h0 _
      · exact absurd hg (by
          cases b with
          | true=>
                    have:0≤(zc w.consumers i).Out.Got:=(zcy hw.good).2.1.2.2.1
                    show ¬ (zc w.consumers i).Out.Got < _
                    have h0':¬ (zc w.consumers i).Out.Got.toNat < (zc w.consumers i).Out.Said.length:=h0
                    show ¬ (zc w.consumers i).Out.Got < (((zc w.consumers i).Out.Said.length:Nat):Int)
                    omega
          | false=>
                     have:0≤(zz w.p.Links i).Out.Got:=(h.p.lk hi).line.2.2.1
                     have h0':¬ (zz w.p.Links i).Out.Got.toNat < (zz w.p.Links i).Out.Said.length:=h0
                     show ¬ (zz w.p.Links i).Out.Got < (((zz w.p.Links i).Out.Said.length:Nat):Int)
                     omega)
    generalize (zef w i b).Said.getD (zef w i b).Got.toNat .empty=s at hmem
    have:∃ q,zf1 q=0∧s=txt (z4a q):=by
      cases b with
      | true=>obtain ⟨q,q1,_,q2⟩:=hw.said s hmem;exact ⟨q,q1,q2⟩
      | false=>obtain ⟨q,q1,_,q2⟩:=hw.told s hmem;exact ⟨q,q1,q2⟩
    obtain ⟨q,q1,rfl⟩:=this
    have:=zab9 q1
    rw[zbv,zabs];omega
  · decide
theorem zas7 {n:Nat} (h:n≤1000):zf1 (zapo n)=0:=by
 have hw:IntKind.i64.wrap (1+(n:Int))=1+n:=zf (by omega) (by omega)
 unfold zf1 zapo
 rw[hw]
 simp only[]
 rw[if_neg (by omega),if_neg (by omega),if_neg (by simp),if_neg (by simp[zv]),if_neg (by simp[z8])]
theorem zas8 {w:Wld} (h:OkW w) {i:Int} (hi:0≤i∧i < 2) (b f:Bool):zrx (zef w i b) f=some (zkq (zef w i b) f)∧(zkq (zef w i b) f).size≤71:=by
 have hz:=zae5 h hi b
 have hg0:0≤(zef w i b).Got:=by
  cases b with
  | true=>exact (zcy (h.c i hi).good).2.1.2.2.1
  | false=>exact (h.p.lk hi).line.2.2.1
 have hE:∀ n:Nat,zbz (⟨3,1,0,IntKind.i64.wrap (1+(n:Int)),[],[]⟩:Packet)=some (zd6 (zapo n)):=fun n=>zabr (by simp) (by simp)
 generalize zef w i b=l at *
 have hsz:(zkq l f).size≤71:=by
  unfold zkq
  cases f with
  | true=>rw[if_pos rfl,zp4 (zas7 (by omega)),zbv,zabs];simp[zapo]
  | false=>rw[if_neg (by simp)];exact hz
 refine ⟨?_,hsz⟩
 rw[zrx,z0v]
 unfold zkq
 unfold zadm at hz ⊢
 by_cases hl:l.Got < ((l.Said.length:Nat):Int)
 ·rw[if_pos hl,Tr.rt (by simpa using hl),Tr.rg ⟨hg0,by show l.Got < ((l.Said.length:Nat):Int);exact hl⟩]
  cases f with
  | true=>rw[Tr.rf (by rfl),if_pos rfl,Tr.rb (hE _),Tr.rl]
  | false=>rw[Tr.rt (by rfl),if_neg (by simp),Tr.rl]
 ·rw[if_neg hl,Tr.rf (by simpa using hl)]
  cases f with
  | true=>rw[Tr.rf (by rfl),if_pos rfl,Tr.rb (hE _),Tr.rl]
  | false=>rw[Tr.rt (by rfl),if_neg (by simp),Tr.rl]
theorem zap0 {w:Wld} (hf:FitPr 140737488351232 w.p):zin w=some ((zyn w).2,(zyn w).1):=by
 rw[zin,zjl,zapg hf,Tr.rg (by rfl)]
 simp only[yy2]
 unfold zyn
 by_cases h0:(zn3 w.p w.clock).2.2=0
 ·rw[Tr.rf (by simpa using h0),if_neg (by simpa using h0)]
  have turn:∀ (c:Nat),c < 2→∀ (u:Wld) l z (p:za),(zbf l (c:Int) u z p).run=some (.inl (l,((c+1:Nat):Int),{ u with heads:={ u.heads with PHeight:=u.heads.PHeight.set c p.Height,PTime:=u.heads.PTime.set c p.Time,PSaid:=u.heads.PSaid.set c (((p.Links.Said.get c).length:Nat):Int),PGot:=u.heads.PGot.set c (u.consumers.Got.get c) } },z,p)):=by
   intro c hc u l z p
   simp only[zbf]
   rw[Tr.rt (by simp;omega),Tr.rg ⟨by omega,by omega⟩,Tr.rg ⟨by omega,by omega⟩,Tr.rg ⟨by omega,by omega⟩,Tr.rg ⟨by omega,by omega⟩,Tr.rl,zl (by omega)]
  have loop:∀ l z,zfx l 0 { w with p:=(zn3 w.p w.clock).1 } z (zn3 w.p w.clock).1=some (l,{ w with p:=(zn3 w.p w.clock).1,heads:=zasx w.heads (zn3 w.p w.clock).1 w.consumers },z):=by
   intro l z
   generalize (zn3 w.p w.clock).1=p
   rw[zfx,za1 (turn 0 (by omega) _ _ _ _),za1 (turn 1 (by omega) _ _ _ _),zbo (by
    show (zbf _ 2 _ _ _).run=_
    simp only[zbf]
    rw[Tr.rf (by simp),Tr.rl])]
   rfl
  rw[Tr.rb (v:=((zn3 w.p w.clock).2.1,{ w with p:=(zn3 w.p w.clock).1,heads:=zasx w.heads (zn3 w.p w.clock).1 w.consumers },⟨0,0⟩)) (by exact loop _ _),Tr.rl]
 ·rw[Tr.rt (by simpa using h0),if_pos h0,Tr.rl];rfl
theorem zacj {C:zd9} {i:Int} (hi:0≤i∧i < 2) (l:zcl):({ C with Said:=C.Said.set i l.Said,Due:=C.Due.set i l.Due,Got:=C.Got.set i l.Got,Closed:=C.Closed.set i l.Closed }:zd9)=zo8 C i { zc C i with Out:=l }:=by
 unfold zo8 zc
 simp only[zts _ hi]
theorem zap1 {w:Wld} (h:OkW w) {d:Deed} (hi:0≤d.C∧d.C < 2):zio d w=some ((zr3 w d).2,(zr3 w d).1):=by
 rw[zio,zjm,Tr.rg hi,Tr.rg hi]
 obtain ⟨t1,t2⟩:=zas8 h hi d.Back d.Forged
 unfold zr3 zr2
 cases hb:d.Back with
 | true =>
  rw[hb] at t1 t2
  have e0:(zc w.consumers d.C).Out=zef w d.C true:=rfl
  have e1:w.consumers.Got.get d.C=(zef w d.C true).Got:=rfl
  rw[Tr.rt rfl,e0,Tr.rb t1,e1,zaeh,Tr.rg (by rfl)]
  simp only[yy2]
  have es:z6o w d.C true=w.p.Links.SSaid.get d.C:=rfl
  rw[← es]
  by_cases h0:(zns (zef w d.C true) (IntKind.i64.wrap ((zef w d.C true).Got+1)) (zkq (zef w d.C true) d.Forged) (z6o w d.C true) w.clock).2=0
  ·rw[Tr.rf (by simpa using h0),if_neg (by simpa using h0),Tr.rt rfl,if_pos trivial,zalo h.fit (by omega),Tr.rg (by rfl)]
   simp only[yy2]
   by_cases h1:(zrb w.p d.C (zkq (zef w d.C true) d.Forged).data.toList).2=0
   ·rw[Tr.rf (by simpa using h1),if_neg (by simpa using h1),Tr.rl,zacj hi]
   ·rw[Tr.rt (by simpa using h1),if_pos h1,Tr.rl];rfl
  ·rw[Tr.rt (by simpa using h0),if_pos h0,Tr.rl];rfl
 | false =>
  rw[hb] at t1 t2
  have e0:(zz w.p.Links d.C).Out=zef w d.C false:=rfl
  have e1:w.p.Links.Got.get d.C=(zef w d.C false).Got:=rfl
  rw[Tr.rf rfl,e0,Tr.rb t1,e1,zaeh,Tr.rg (by rfl)]
  simp only[yy2]
  have es:z6o w d.C false=w.consumers.SSaid.get d.C:=rfl
  rw[← es]
  by_cases h0:(zns (zef w d.C false) (IntKind.i64.wrap ((zef w d.C false).Got+1)) (zkq (zef w d.C false) d.Forged) (z6o w d.C false) w.clock).2=0
  ·rw[Tr.rf (by simpa using h0),if_neg (by simpa using h0),Tr.rf rfl,if_neg (by simp),Tr.rb (za33 ((h.c d.C hi).fit h.d1) (by omega))]
   by_cases h1:(z08 (zc w.consumers d.C) (zkq (zef w d.C false) d.Forged).data.toList).2=0
   ·rw[Tr.rf (by simpa using h1),if_neg (by simpa using h1),Tr.rl];rfl
   ·rw[Tr.rt (by simpa using h1),if_pos h1,Tr.rl];rfl
  ·rw[Tr.rt (by simpa using h0),if_pos h0,Tr.rl];rfl
theorem zas9 {w:Wld} (h:OkW w) {d:Deed} (hi:0≤d.C∧d.C < 2):zjn d w=some ((z4i w d).2,(z4i w d).1):=by
 rw[zjn,zko,Tr.rg hi,Tr.rg hi]
 have hr:=zahc h.fit (c:=d.C)
 unfold z4i zapp
 cases hb:d.Back with
 | true =>
  rw[Tr.rt rfl,if_pos rfl,Tr.rb (zais _ _ _ _)]
  by_cases h0:(zq0 (zc w.consumers d.C).Out d.N (w.consumers.STime.get d.C) (w.consumers.SGot.get d.C)).2=0
  ·rw[Tr.rf (by simpa using h0),if_neg (by simpa using h0),hr,Tr.rg (by rfl),Tr.rb zaja,Tr.rl];rfl
  ·rw[Tr.rt (by simpa using h0),if_pos h0,Tr.rl];rfl
 | false =>
  rw[Tr.rf rfl,if_neg (show ¬ (false=true) by simp),Tr.rb (zais _ _ _ _)]
  by_cases h0:(zq0 (zz w.p.Links d.C).Out d.N (w.p.Links.STime.get d.C) (w.p.Links.SGot.get d.C)).2=0
  ·rw[Tr.rf (by simpa using h0),if_neg (by simpa using h0),hr,Tr.rg (by rfl),Tr.rb zaja,Tr.rl];rfl
  ·rw[Tr.rt (by simpa using h0),if_pos h0,Tr.rl];rfl
theorem zap2 {w:Wld} (h:OkW w) {d:Deed}:ziq d w=some ((zhl w d).2,(zhl w d).1):=by
 rw[ziq,zjo]
 unfold zhl
 by_cases c1:d.Kind < 4∨12 < d.Kind
 ·rw[if_pos c1,Tr.rt (by simpa using c1),Tr.rl];rfl
 rw[if_neg c1,Tr.rf (by simp;omega)]
 by_cases c2:d.C < 0∨2≤d.C
 ·rw[if_pos c2,Tr.rt (by simpa using c2),Tr.rl];rfl
 have hi:0≤d.C∧d.C < 2:=by omega
 have hw:=h.c d.C hi
 have hfc:=hw.fit h.d1
 rw[if_neg c2,Tr.rf (by simp;omega),Tr.rg hi]
 by_cases c3:d.Kind≠4∧w.consumers.On.get d.C=false
 ·rw[if_pos c3,Tr.rt (by simpa using c3),Tr.rl];rfl
 rw[if_neg c3,Tr.rf (by
  rw[Bool.eq_false_iff];intro k;apply c3;simpa using k)]
 by_cases c4:d.Kind=4
 ·rw[if_pos c4,Tr.rt (by simpa using c4),zajk h.fit,Tr.rg (by rfl)]
  simp only[yy2]
  unfold zace
  by_cases h0:(zfz w.p d.C).2=0
  ·obtain ⟨f1,_,f3,f4,f5,f6,f7⟩:=z4j h0
   have hs:(zfz w.p d.C).1.Set.length*16≤140737488355328:=by rw[f7];have:=h.fit.set;show w.p.Set.length*16≤_;omega
   rw[Tr.rf (by simpa using h0),if_neg (by simpa using h0),zaxs hs,Tr.rg (by rfl),Tr.rg hi,Tr.rl]
   rfl
  ·rw[Tr.rt (by simpa using h0),if_pos h0,Tr.rl];rfl
 rw[if_neg c4,Tr.rf (by simpa using c4)]
 have hsz:=hw.size;have hd1:=h.d1
 by_cases c7:d.Kind=7
 ·have he:z6 (zc w.consumers d.C) w.clock=some (z9s w.clock (zc w.consumers d.C)):=zbc2 hfc (by omega)
  rw[if_pos c7,Tr.rt (by simpa using c7),he,Tr.rg (by rfl)]
  simp only[yy2]
  unfold z6n
  by_cases h0:(z9s w.clock (zc w.consumers d.C)).2=0
  ·rw[Tr.rt (by simpa using h0),Tr.rg hi,Tr.rg hi,Tr.rg (by omega),Tr.rf (by simpa using h0),if_neg (by simpa using h0),Tr.rl];rfl
  ·rw[Tr.rf (by simpa using h0),Tr.rt (by simpa using h0),if_pos h0,Tr.rl];rfl
 rw[if_neg c7,Tr.rf (by simpa using c7)]
 by_cases c8:d.Kind=8
 ·rw[if_pos c8,Tr.rt (by simpa using c8)]
  unfold zajp
  cases hb:d.Back with
  | true =>
   rw[Tr.rt rfl,if_pos rfl,Tr.rg hi,Tr.rg (by omega),Tr.rg hi,Tr.rf rfl,Tr.rl,z1b hi];rfl
  | false =>
   rw[Tr.rf rfl,if_neg (show ¬ (false=true) by simp),Tr.rg hi,Tr.rg (by omega),Tr.rf rfl,Tr.rl];rfl
 rw[if_neg c8,Tr.rf (by simpa using c8)]
 by_cases c9:d.Kind=9
 ·rw[if_pos c9,Tr.rt (by simpa using c9),Tr.rb (zap1 h hi),Tr.rl]
 rw[if_neg c9,Tr.rf (by simpa using c9)]
 by_cases c10:d.Kind=10
 ·rw[if_pos c10,Tr.rt (by simpa using c10),Tr.rb (zas9 h hi),Tr.rl]
 rw[if_neg c10,Tr.rf (by simpa using c10)]
 by_cases c11:d.Kind=11
 ·rw[if_pos c11,Tr.rt (by simpa using c11),za34 hfc,Tr.rg (by rfl)]
  simp only[yy2]
  unfold putW
  by_cases h0:(z4f (zc w.consumers d.C) d.V w.clock).2=0
  ·rw[Tr.rf (by simpa using h0),if_neg (by simpa using h0),Tr.rl]
  ·rw[Tr.rt (by simpa using h0),if_pos h0,Tr.rl];rfl
 rw[if_neg c11,Tr.rf (by simpa using c11)]
 by_cases c12:d.Kind=12
 ·rw[if_pos c12,Tr.rt (by simpa using c12),zase hfc,Tr.rg (by rfl)]
  simp only[yy2]
  unfold putW
  by_cases h0:(zo2 (zc w.consumers d.C) d.V d.N w.clock).2=0
  ·rw[Tr.rf (by simpa using h0),if_neg (by simpa using h0),Tr.rl]
  ·rw[Tr.rt (by simpa using h0),if_pos h0,Tr.rl];rfl
 rw[if_neg c12,Tr.rf (by simpa using c12),Tr.rf rfl,Tr.rl,z1b hi]
theorem zbka {w:Wld} (h:OkW w) {d:Deed} (hn:d.N≤9223372036854775807):zou d w=some ((doW w d).2,(doW w d).1):=by
 rw[zou,zqy]
 unfold doW
 by_cases c0:600≤w.deeds
 ·rw[if_pos c0,Tr.rt (by simpa using c0),Tr.rl];rfl
 have hd:w.deeds < 600:=by omega
 have hd0:=h.d0
 have hw:IntKind.i64.wrap (w.deeds+1)=w.deeds+1:=zf (by omega) (by omega)
 have hm:=znu h hd
 rw[if_neg c0,Tr.rf (by simpa using c0),hw]
 have e0:({ w with deeds:=w.deeds+1 }:Wld)=zd8 w:=rfl
 unfold actW
 by_cases c1:d.Kind=1
 ·rw[if_pos c1,Tr.rt (by simpa using c1),Tr.rb (zab5 h.fit hn)]
  unfold zza
  by_cases h0:(zer w.p d.D d.V d.N).2=0
  ·rw[Tr.rf (by simpa using h0),if_neg (by show ¬ (zer w.p d.D d.V d.N).2≠0;simpa using h0),Tr.rl];rfl
  ·rw[Tr.rt (by simpa using h0),if_pos (by exact h0),Tr.rl];rfl
 rw[if_neg c1,Tr.rf (by simpa using c1)]
 by_cases c2:d.Kind=2
 ·rw[if_pos c2,Tr.rt (by simpa using c2),z7v h.fit hn,Tr.rg (by rfl)]
  simp only[yy2]
  unfold zza
  by_cases h0:(zci w.p d.D d.V d.N w.clock).2=0
  ·rw[Tr.rf (by simpa using h0),if_neg (by show ¬ (zci w.p d.D d.V d.N w.clock).2≠0;simpa using h0),Tr.rl];rfl
  ·rw[Tr.rt (by simpa using h0),if_pos (by exact h0),Tr.rl];rfl
 rw[if_neg c2,Tr.rf (by simpa using c2)]
 by_cases c3:d.Kind=3
 ·rw[if_pos c3,Tr.rt (by simpa using c3),Tr.rb zarx]
  unfold zza
  by_cases h0:(zcx w.p.Stake d.V 1).2=0
  ·rw[Tr.rf (by simpa using h0),if_neg (by show ¬ (zcx w.p.Stake d.V 1).2≠0;simpa using h0),Tr.rl];rfl
  ·rw[Tr.rt (by simpa using h0),if_pos (by exact h0),Tr.rl];rfl
 rw[if_neg c3,Tr.rf (by simpa using c3)]
 by_cases c13:d.Kind=13
 ·rw[if_pos c13,Tr.rt (by simpa using c13),Tr.rb (zab8 h.fit)]
  unfold zza
  by_cases h0:(zw1 w.p d.V d.N).2=0
  ·rw[Tr.rf (by simpa using h0),if_neg (by show ¬ (zw1 w.p d.V d.N).2≠0;simpa using h0),Tr.rl];rfl
  ·rw[Tr.rt (by simpa using h0),if_pos (by exact h0),Tr.rl];rfl
 rw[if_neg c13,Tr.rf (by simpa using c13)]
 by_cases c5:d.Kind=5
 ·rw[if_pos c5,Tr.rt (by simpa using c5)]
  have t0:=h.t0;have t1:=h.t1
  have h1:IntKind.i64.wrap (1099511627736 - w.clock)=1099511627736 - w.clock:=zf (by omega) (by omega)
  rw[h1]
  unfold zasy
  by_cases h0:d.N < 1∨1099511627736 - w.clock < d.N
  ·rw[Tr.rt (by simpa using h0),if_pos (by exact h0),Tr.rl];rfl
  ·have h2:IntKind.i64.wrap (w.clock+d.N)=w.clock+d.N:=zf (by omega) (by omega)
   rw[Tr.rf (by simp;omega),if_neg (by exact h0),Tr.rl,h2];rfl
 rw[if_neg c5,Tr.rf (by simpa using c5)]
 by_cases c6:d.Kind=6
 ·rw[if_pos c6,Tr.rt (by simpa using c6),e0,Tr.rb (zap0 hm.fit),Tr.rl]
 rw[if_neg c6,Tr.rf (by simpa using c6),e0,Tr.rb (zap2 hm),Tr.rl]
def stk7:Stake:=⟨⟨⟨99300,100000,100000,100000⟩,700,0,0⟩,{ zbcz with Tokens:=⟨700,0,0,0,0,0⟩,Shares:=⟨700,0,0,0,0,0⟩ },⟨⟨700,0,0,0,0,0⟩,⟨0,0,0,0,0,0⟩,⟨0,0,0,0,0,0⟩,⟨0,0,0,0,0,0⟩⟩,[],1⟩
def p7:za:={ zapb with Stake:=stk7 }
def p8:za:=⟨1,5,stk7,[⟨0,7⟩],default,zag6 (newM 0 0) (allP []) 5,[]⟩
def w1:Wld:=⟨0,p7,default,default,1⟩
def w2:Wld:=⟨5,p7,default,default,2⟩
def w3:Wld:=⟨5,p8,default,zasx default p8 default,3⟩
structure Alike (w w':Wld):Prop where
 p:w'.p=w.p
 c:w'.consumers=w.consumers
 t:w'.clock=w.clock
theorem Alike.refl (w:Wld):Alike w w:=⟨rfl,rfl,rfl⟩
theorem Alike.more (w:Wld):Alike w (zd8 w):=⟨rfl,rfl,rfl⟩
def zmk (w:Wld):zt5:=⟨w.clock,w.deeds,w.p,w.consumers,⟨w.heads.PHeight,w.heads.PTime,w.heads.PSaid,w.heads.PGot⟩,⟨w.heads.CHeight,w.heads.CTime,w.heads.CSaid,w.heads.CGot⟩⟩
theorem zll (e:Int):z7 e=some ⟨e,0⟩:=by rw[z7,zqz,Tr.rl]
theorem zack (e:Int):zdb e=some ⟨e,0⟩:=by rw[zdb,zjp,Tr.rl]
theorem zap3:ztm=some (zmk newW):=by rw[ztm,zvv,Tr.rb zag7,Tr.rl];rfl
theorem zahg {p:za} {d v n:Int} (h:(zer p d v n).2≠0):(zer p d v n).1=p:=by
 unfold zer at h ⊢
 split
 ·rename_i c;rw[if_pos c] at h
  split
  ·rfl
  ·rename_i k;rw[if_neg k] at h;exact absurd rfl h
 ·rfl
theorem zacl {p:za} {d v n t:Int} (h:(zci p d v n t).2≠0):(zci p d v n t).1=p:=by
 unfold zci at h ⊢
 split
 ·rename_i c;rw[if_pos c] at h
  split
  ·rfl
  ·rename_i k;rw[if_neg k] at h;exact absurd rfl h
 ·rfl
theorem zata {p:za} {v n:Int} (h:(zw1 p v n).2≠0):(zw1 p v n).1=p:=by
 unfold zw1 at h ⊢
 split
 ·rfl
 ·rename_i a;rw[if_neg a] at h
  split
  ·rename_i b;rw[if_pos b] at h
   split
   ·rename_i c;rw[if_pos c] at h
    split
    ·rfl
    ·rename_i k;rw[if_neg k] at h;exact absurd rfl h
   ·rfl
  ·rfl
theorem zatb {s:Stake} {v n:Int} (h:(zcx s v n).2≠0):(zcx s v n).1=s:=by
 unfold zcx at h ⊢
 split
 ·rfl
 ·rename_i a;rw[if_neg a] at h
  split
  ·rfl
  ·rename_i a;rw[if_neg a] at h
   split
   ·rfl
   ·rename_i a;rw[if_neg a] at h
    split
    ·rfl
    ·rename_i a;rw[if_neg a] at h;exact absurd rfl h
theorem zaye {p:za} {t:Int} (h:(zn3 p t).2.2≠0):(zn3 p t).1=p:=by
 by_cases c:zao p=true∧p.Time≤t∧t≤1099511627776
 ·exact absurd (zasv c) h
 ·rw[zbc8 c]
theorem za4g {c:zb} {t:Int} (h:(z9s t c).2≠0):(z9s t c).1=c:=by
 unfold z9s at h ⊢
 split
 ·rfl
 ·rename_i a;rw[if_neg a] at h
  split
  ·rfl
  ·rename_i a;rw[if_neg a] at h
   split
   ·rfl
   ·rename_i a;rw[if_neg a] at h;exact absurd rfl h
theorem zayf {c:zb} {v t:Int} (h:(z4f c v t).2≠0):(z4f c v t).1=c:=by
 unfold z4f at h ⊢
 split
 ·rfl
 ·rename_i a;rw[if_neg a] at h
  split
  ·rfl
  ·rename_i a;rw[if_neg a] at h
   split
   ·rfl
   ·rename_i a;rw[if_neg a] at h
    split
    ·rfl
    ·rename_i a;rw[if_neg a] at h;exact absurd rfl h
theorem zap4 {c:zb} {v n t:Int} (h:(zo2 c v n t).2≠0):(zo2 c v n t).1=c:=by
 unfold zo2 at h ⊢
 split
 ·rfl
 ·rename_i a;rw[if_neg a] at h
  split
  ·rfl
  ·rename_i a;rw[if_neg a] at h
   split
   ·rfl
   ·rename_i a;rw[if_neg a] at h;exact z9r h
theorem zano {w:Wld} (h:OkW w) {i:Int} (hi:0≤i∧i < 2) (b:Bool):0≤(zef w i b).Got∧(zef w i b).Got≤400∧(zef w i b).Due.length≤400:=by
 have key:∀ {l:zcl},zdv l→0≤l.Got∧l.Got≤400∧l.Due.length≤400:=by
  intro l g
  have a1:=g.1;have a2:=g.2.1;have a3:=g.2.2.1;have a4:=g.2.2.2.1
  omega
 cases b with
 | true=>exact key (zcy (h.c i hi).good).2.1
 | false=>exact key (h.p.lk hi).line
theorem zatc {w:Wld} (h:OkW w) {d:Deed} (hi:0≤d.C∧d.C < 2):zkp d (zmk w)=some ((zr3 w d).2,zmk (zr3 w d).1):=by
 obtain ⟨g0,g1,g2⟩:=zano h hi d.Back
 have t2:=(zas8 h hi d.Back d.Forged).2
 have hz:=zae5 h hi d.Back
 have hfc:=(h.c d.C hi).fit h.d1
 have hw:IntKind.i64.wrap ((zef w d.C d.Back).Got+1)=(zef w d.C d.Back).Got+1:=zf (by omega) (by omega)
 have j1:zhf d.C d.C ((zmk w).C.SSaid.get d.C) d.Back (zmk w) d ⟨0,0⟩ (zz (zmk w).P.Links d.C).Out=some (d.C,d.C,z6o w d.C d.Back,zmk w,d,⟨0,0⟩,zef w d.C d.Back):=by
  rw[zhf,zir]
  cases d.Back with
  | true=>rw[Tr.rt rfl,Tr.rl];rfl
  | false=>rw[Tr.rf rfl,Tr.rl];rfl
 have j2:zhg d.C d.C (z6o w d.C d.Back) (⟨#[]⟩:ByteArray) (decide ((zef w d.C d.Back).Got < (((zef w d.C d.Back).Said.length:Nat):Int))) (zmk w) d ⟨0,0⟩ (zef w d.C d.Back)=some (d.C,d.C,z6o w d.C d.Back,zadm (zef w d.C d.Back),zmk w,d,⟨0,0⟩,zef w d.C d.Back):=by
  generalize zef w d.C d.Back=l at *
  rw[zhg,zis]
  unfold zadm
  by_cases c:l.Got < ((l.Said.length:Nat):Int)
  ·rw[Tr.rt (decide_eq_true c),Tr.rg ⟨g0,c⟩,Tr.rl,if_pos c]
  ·rw[Tr.rf (decide_eq_false c),Tr.rl,if_neg c]
 have j3:zhh d.C d.C (z6o w d.C d.Back) (zadm (zef w d.C d.Back)) d.Forged (zmk w) d ⟨0,0⟩ (zef w d.C d.Back)=some (d.C,d.C,z6o w d.C d.Back,zkq (zef w d.C d.Back) d.Forged,zmk w,d,⟨0,0⟩,zef w d.C d.Back):=by
  have hE:za3 (⟨3,1,0,IntKind.i64.wrap ((((zadm (zef w d.C d.Back)).size:Nat):Int)+1),[],[]⟩:Packet)=some (zd6 (zapo (zadm (zef w d.C d.Back)).size)):=by
   rw[Int.add_comm];exact z01 (by simp) (by simp)
  rw[zhh,zit]
  unfold zkq
  cases d.Forged with
  | true=>rw[Tr.rt rfl,Tr.rb hE,Tr.rl];rfl
  | false=>rw[Tr.rf rfl,Tr.rl];rfl
 rw[zkp,zl4,Tr.rg hi,Tr.rg hi,Tr.rb j1,Tr.rb j2,Tr.rb j3]
 simp only[]
 have hD:zah (zef w d.C d.Back) (IntKind.i64.wrap ((zef w d.C d.Back).Got+1)) (zkq (zef w d.C d.Back) d.Forged) (z6o w d.C d.Back) (zmk w).Clock=some (zr2 w d):=by
  refine (zagm _ _ _ (by omega) ?_).trans rfl
  rw[hw];unfold i64;omega
 rw[hD,Tr.rg (by rfl)]
 simp only[yy2]
 unfold zr3
 by_cases h0:(zr2 w d).2=0
 ·rw[Tr.rf (by simpa using h0),if_neg (by simpa using h0)]
  cases hb:d.Back with
  | true =>
   rw[hb] at t2
   rw[Tr.rt rfl,if_pos rfl]
   have hh:zb9 (zmk w).P d.C (zkq (zef w d.C true) d.Forged)=some _:=zadk (p:=w.p) h.fit (by omega)
   rw[hh,Tr.rg (by rfl)]
   simp only[yy2]
   by_cases h1:(zrb w.p d.C (zkq (zef w d.C true) d.Forged).data.toList).2=0
   ·rw[Tr.rf (by simpa using h1),if_neg (by simpa using h1),Tr.rl,zacj hi];rfl
   ·rw[Tr.rt (by simpa using h1),if_pos h1,Tr.rb (zack _),Tr.rl];rfl
  | false =>
   rw[hb] at t2
   rw[Tr.rf rfl,if_neg (by simp)]
   have hh:zhd (zc (zmk w).C d.C) (zkq (zef w d.C false) d.Forged)=some _:=zao5 (c:=zc w.consumers d.C) hfc (by omega)
   rw[Tr.rb hh]
   by_cases h1:(z08 (zc w.consumers d.C) (zkq (zef w d.C false) d.Forged).data.toList).2=0
   ·rw[Tr.rf (by simpa using h1),if_neg (by simpa using h1),Tr.rl];rfl
   ·rw[Tr.rt (by simpa using h1),if_pos h1,Tr.rb (zack _),Tr.rl];rfl
 ·rw[Tr.rt (by simpa using h0),if_pos h0,Tr.rb (zack _),Tr.rl];rfl
theorem zalx {w:Wld} (x:List Int) (r:Reply):zi1 x 0 (zmk w) r=some (x,zmk { w with heads:=zasx w.heads w.p w.consumers },r):=by
 have turn:∀ (c:Nat),c < 2→∀ (u:zt5),(zeq x (c:Int) u r).run=some (.inl (x,((c+1:Nat):Int),{ u with HeadP:=⟨u.HeadP.Height.set c u.P.Height,u.HeadP.Time.set c u.P.Time,u.HeadP.Said.set c (((u.P.Links.Said.get c).length:Nat):Int),u.HeadP.Got.set c (u.C.Got.get c)⟩ },r)):=by
  intro c hc u
  have hc':0≤(c:Int)∧(c:Int) < 2:=by omega
  simp only[zeq]
  rw[Tr.rt (by simp;omega),Tr.rg hc',Tr.rg hc',Tr.rg hc',Tr.rl,zl (by omega)]
 rw[zi1,za1 (turn 0 (by omega) _),za1 (turn 1 (by omega) _),zbo (by
  show (zeq _ 2 _ _).run=_
  simp only[zeq]
  rw[Tr.rf (by simp),Tr.rl])]
 rfl
theorem zatd {w:Wld} (h:OkW w) {d:Deed} (hi:0≤d.C∧d.C < 2):znp 0 (d.Kind==4) (zmk w) d ⟨0,0⟩=some (if d.Kind=4 then .inl (zmk (zace w d.C).1,(zace w d.C).2) else .inr (0,zmk w,d,⟨0,0⟩)):=by
 rw[znp,zov]
 by_cases c4:d.Kind=4
 ·have hh:zc7 (zmk w).P d.C=some (zfz w.p d.C):=zaca (p:=w.p) h.fit
  rw[if_pos c4,Tr.rt (by simpa using c4),hh,Tr.rg (by rfl)]
  simp only[yy2]
  unfold zace
  by_cases h0:(zfz w.p d.C).2=0
  ·obtain ⟨f1,_,f3,f4,f5,f6,f7⟩:=z4j h0
   have hs:(zfz w.p d.C).1.Set.length*16≤140737488355328:=by rw[f7];have:=h.fit.set;show w.p.Set.length*16≤_;omega
   rw[Tr.rf (by simpa using h0),if_neg (by simpa using h0),zald hs,Tr.rg (by rfl),Tr.rg hi,Tr.rg hi,Tr.rg hi,Tr.rl]
   rfl
  ·rw[Tr.rt (by simpa using h0),if_pos h0,Tr.rb (zll _),Tr.rl];rfl
 ·rw[if_neg c4,Tr.rf (by simpa using c4),Tr.rl]
theorem zate {w:Wld} (h:OkW w) {d:Deed} (hi:0≤d.C∧d.C < 2) (hk:5≤d.Kind∧d.Kind≤12) (hk5:d.Kind≠5∧d.Kind≠6) (hon:w.consumers.On.get d.C=true) :
  ∃ r,znq 0 d.C d.C d.Kind (d.Kind==7) (zmk w) d ⟨0,0⟩=some r∧((∃ e,r=.inl (e,zmk (zhl w d).1,⟨0,0⟩)∧(zhl w d).2=⟨e,0⟩)∨r=.inr (zmk (zhl w d).1,(zhl w d).2)):=by
 have hcw:=h.c d.C hi
 have hfc:=hcw.fit h.d1
 have hsz:=hcw.size
 have hd1:=h.d1
 rw[znq,zow]
 unfold zhl
 rw[if_neg (by omega),if_neg (by omega),if_neg (by rintro ⟨_,k⟩;rw[hon] at k;cases k),if_neg (by omega)]
 by_cases c7:d.Kind=7
 ·have he:zac (zc (zmk w).C d.C) (zmk w).Clock=some (z9s w.clock (zc w.consumers d.C)):=zasd (c:=zc w.consumers d.C) hfc (by omega)
  rw[if_pos c7,Tr.rt (by simpa using c7),he,Tr.rg (by rfl)]
  simp only[yy2]
  unfold z6n
  by_cases h0:(z9s w.clock (zc w.consumers d.C)).2=0
  ·rw[Tr.rt (by simpa using h0),Tr.rg hi,Tr.rl,if_neg (by simpa using h0)]
   refine ⟨_,rfl,.inl ⟨(z9s w.clock (zc w.consumers d.C)).2,?_,by rw[h0]⟩⟩
   unfold zmk zbda
   simp only[za2 _ _ hi hi,if_true]
  ·rw[Tr.rf (by simpa using h0),Tr.rl,if_pos h0]
   refine ⟨_,rfl,.inl ⟨_,?_,rfl⟩⟩
   rw[za4g h0]
   show Sum.inl (_,({ zmk w with C:=zo8 w.consumers d.C (zc w.consumers d.C) }:zt5),_)=_
   rw[z1b hi];rfl
 rw[if_neg c7,Tr.rf (by simpa using c7)]
 by_cases c8:d.Kind=8
 ·rw[if_pos c8,Tr.rt (by simpa using c8)]
  unfold zajp
  cases hb:d.Back with
  | true=>rw[Tr.rt rfl,if_pos rfl,Tr.rg hi,Tr.rl];exact ⟨_,rfl,.inl ⟨_,rfl,rfl⟩⟩
  | false =>
   rw[Tr.rf rfl,if_neg (show ¬ (false=true) by simp),Tr.rg hi,Tr.rl]
   refine ⟨_,rfl,.inl ⟨_,?_,rfl⟩⟩
   have e:zo8 w.consumers d.C { zc w.consumers d.C with Seen:=za39 w.heads d.C }={ w.consumers with SHeight:=w.consumers.SHeight.set d.C (w.heads.PHeight.get d.C),STime:=w.consumers.STime.set d.C (w.heads.PTime.get d.C),SSaid:=w.consumers.SSaid.set d.C (w.heads.PSaid.get d.C),SGot:=w.consumers.SGot.set d.C (w.heads.PGot.get d.C) }:=by
    unfold zo8 zc za39
    simp only[zts _ hi]
   rw[e];rfl
 rw[if_neg c8,Tr.rf (by simpa using c8)]
 by_cases c11:d.Kind=11
 ·have hh:zj8 (zc (zmk w).C d.C) d.V (zmk w).Clock=some (z4f (zc w.consumers d.C) d.V w.clock):=zao9 (c:=zc w.consumers d.C) hfc
  rw[if_neg (by omega),if_neg (by omega),if_pos c11,Tr.rt (by simpa using c11),hh,Tr.rg (by rfl),Tr.rl]
  simp only[yy2]
  unfold putW
  by_cases h0:(z4f (zc w.consumers d.C) d.V w.clock).2=0
  ·rw[if_neg (by simpa using h0)];exact ⟨_,rfl,.inl ⟨_,rfl,by rw[h0]⟩⟩
  ·rw[if_pos h0]
   refine ⟨_,rfl,.inl ⟨_,?_,rfl⟩⟩
   rw[zayf h0]
   show Sum.inl (_,({ zmk w with C:=zo8 w.consumers d.C (zc w.consumers d.C) }:zt5),_)=_
   rw[z1b hi];rfl
 rw[Tr.rf (by simpa using c11)]
 by_cases c12:d.Kind=12
 ·have hh:zgn (zc (zmk w).C d.C) d.V d.N (zmk w).Clock=some (zo2 (zc w.consumers d.C) d.V d.N w.clock):=zai9 (c:=zc w.consumers d.C) hfc
  rw[if_neg (by omega),if_neg (by omega),if_neg c11,if_pos c12,Tr.rt (by simpa using c12),hh,Tr.rg (by rfl),Tr.rl]
  simp only[yy2]
  unfold putW
  by_cases h0:(zo2 (zc w.consumers d.C) d.V d.N w.clock).2=0
  ·rw[if_neg (by simpa using h0)];exact ⟨_,rfl,.inl ⟨_,rfl,by rw[h0]⟩⟩
  ·rw[if_pos h0]
   refine ⟨_,rfl,.inl ⟨_,?_,rfl⟩⟩
   rw[zap4 h0]
   show Sum.inl (_,({ zmk w with C:=zo8 w.consumers d.C (zc w.consumers d.C) }:zt5),_)=_
   rw[z1b hi];rfl
 rw[Tr.rf (by simpa using c12)]
 by_cases c9:d.Kind=9
 ·rw[if_pos c9,Tr.rt (by simpa using c9),Tr.rb (zatc h hi),Tr.rl];exact ⟨_,rfl,.inr rfl⟩
 rw[if_neg c9,Tr.rf (by simpa using c9)]
 have c10:d.Kind=10:=by omega
 rw[if_pos c10,Tr.rt (by simpa using c10)]
 have hr:zhe (zmk w).P d.C=some (zr1 w.p d.C):=z89 (p:=w.p) h.fit
 have hrc:zbh (zc (zmk w).C d.C)=some (zyl (zc w.consumers d.C)):=zajb (c:=zc w.consumers d.C) hfc
 have g2:=fun b=>(zano h hi b).2.2
 unfold z4i zapp
 cases hb:d.Back with
 | true =>
  have hx:zb3 (zc (zmk w).C d.C).Out d.N ((zmk w).C.STime.get d.C) ((zmk w).C.SGot.get d.C)=some (zq0 (zc w.consumers d.C).Out d.N (w.consumers.STime.get d.C) (w.consumers.SGot.get d.C)):=z8k _ _ _ (by have:=g2 true;show (zef w d.C true).Due.length≤_;omega)
  rw[Tr.rt rfl,if_pos rfl,hx,Tr.rg (by rfl)]
  simp only[yy2]
  by_cases h0:(zq0 (zc w.consumers d.C).Out d.N (w.consumers.STime.get d.C) (w.consumers.SGot.get d.C)).2=0
  ·rw[Tr.rt (by simpa using h0),if_neg (by simpa using h0),hr,hrc,Tr.rg (by rfl),Tr.rg (by rfl),Tr.rl];exact ⟨_,rfl,.inl ⟨_,rfl,by rw[h0]⟩⟩
  ·rw[Tr.rf (by simpa using h0),if_pos h0,Tr.rl];exact ⟨_,rfl,.inl ⟨_,rfl,rfl⟩⟩
 | false =>
  have hx:zb3 (zz (zmk w).P.Links d.C).Out d.N ((zmk w).P.Links.STime.get d.C) ((zmk w).P.Links.SGot.get d.C)=some (zq0 (zz w.p.Links d.C).Out d.N (w.p.Links.STime.get d.C) (w.p.Links.SGot.get d.C)):=z8k _ _ _ (by have:=g2 false;show (zef w d.C false).Due.length≤_;omega)
  rw[Tr.rf rfl,if_neg (show ¬ (false=true) by simp),hx,Tr.rg (by rfl)]
  simp only[yy2]
  by_cases h0:(zq0 (zz w.p.Links d.C).Out d.N (w.p.Links.STime.get d.C) (w.p.Links.SGot.get d.C)).2=0
  ·rw[Tr.rt (by simpa using h0),if_neg (by simpa using h0),hr,hrc,Tr.rg (by rfl),Tr.rg (by rfl),Tr.rl];exact ⟨_,rfl,.inl ⟨_,rfl,by rw[h0]⟩⟩
  ·rw[Tr.rf (by simpa using h0),if_pos h0,Tr.rl];exact ⟨_,rfl,.inl ⟨_,rfl,rfl⟩⟩
theorem zayg {w:Wld} (h:OkW w) {d:Deed} (hn:d.N≤9223372036854775807):zgr d (zmk w)=some ((doW w d).2,zmk (doW w d).1):=by
 rw[zgr,zvw]
 unfold doW
 have hd1:=h.d1
 by_cases c0:600≤w.deeds
 ·have e:(zmk w).Deeds=600:=by show w.deeds=600;omega
  rw[if_pos c0,Tr.rt (by simpa using e),Tr.rb (zll _),Tr.rl];rfl
 have hd:w.deeds < 600:=by omega
 have hd0:=h.d0
 have hw:IntKind.i64.wrap ((zmk w).Deeds+1)=w.deeds+1:=zf (by show _≤w.deeds+1;omega) (by show w.deeds+1≤_;omega)
 have hm:=znu h hd
 have e0:(zmk w).Deeds≠600:=by show w.deeds≠600;omega
 rw[if_neg c0,Tr.rf (by simpa using e0),hw]
 have em:({ zmk w with Deeds:=w.deeds+1 }:zt5)=zmk (zd8 w):=rfl
 unfold actW
 by_cases c1:d.Kind=1
 ·have hh:zbm (zmk w).P d.D d.V d.N=some _:=z6g (p:=w.p) h.fit hn
  rw[if_pos c1,Tr.rt (by simpa using c1),hh,Tr.rg (by rfl),Tr.rb (zll _),Tr.rl]
  simp only[yy2]
  unfold zza
  have e:(zd8 w).p=w.p:=rfl
  rw[e]
  by_cases h0:(zer w.p d.D d.V d.N).2=0
  ·rw[if_neg (by simpa using h0),h0];rfl
  ·rw[if_pos h0,zahg h0];rfl
 rw[if_neg c1,Tr.rf (by simpa using c1)]
 by_cases c2:d.Kind=2
 ·have hh:za7 (zmk w).P d.D d.V d.N (zmk w).Clock=some _:=z10 (p:=w.p) h.fit hn
  rw[if_pos c2,Tr.rt (by simpa using c2),hh,Tr.rg (by rfl),Tr.rb (zll _),Tr.rl]
  simp only[yy2]
  unfold zza
  have e:(zd8 w).p=w.p:=rfl
  rw[e]
  have e2:(zmk w).Clock=w.clock:=rfl
  have e3:(zd8 w).clock=w.clock:=rfl
  rw[e2,e3]
  by_cases h0:(zci w.p d.D d.V d.N w.clock).2=0
  ·rw[if_neg (by simpa using h0),h0];rfl
  ·rw[if_pos h0,zacl h0];rfl
 rw[if_neg c2,Tr.rf (by simpa using c2)]
 by_cases c3:d.Kind=3
 ·have hh:zfh (zmk w).P.Stake d.V 1=some _:=z9p (s:=w.p.Stake)
  rw[if_pos c3,Tr.rt (by simpa using c3),hh,Tr.rg (by rfl),Tr.rb (zll _),Tr.rl]
  simp only[yy2]
  unfold zza zahd
  have e:(zd8 w).p=w.p:=rfl
  rw[e]
  by_cases h0:(zcx w.p.Stake d.V 1).2=0
  ·rw[if_neg (by simpa using h0),h0];rfl
  ·rw[if_pos h0,zatb h0];rfl
 rw[if_neg c3,Tr.rf (by simpa using c3)]
 by_cases c13:d.Kind=13
 ·have hh:zgq (zmk w).P d.V d.N=some _:=zadj (p:=w.p) h.fit
  rw[if_pos c13,Tr.rt (by simpa using c13),hh,Tr.rg (by rfl),Tr.rb (zll _),Tr.rl]
  simp only[yy2]
  unfold zza
  have e:(zd8 w).p=w.p:=rfl
  rw[e]
  by_cases h0:(zw1 w.p d.V d.N).2=0
  ·rw[if_neg (by simpa using h0),h0];rfl
  ·rw[if_pos h0,zata h0];rfl
 rw[if_neg c13,Tr.rf (by simpa using c13)]
 by_cases c5:d.Kind=5
 ·rw[if_pos c5,Tr.rt (by simpa using c5)]
  have t0:=h.t0;have t1:=h.t1
  have h1:IntKind.i64.wrap (1099511627736 - (zmk w).Clock)=1099511627736 - w.clock:=zf (by show _≤1099511627736 - w.clock;omega) (by show 1099511627736 - w.clock≤_;omega)
  rw[h1]
  unfold zasy
  have e3:(zd8 w).clock=w.clock:=rfl
  rw[e3]
  by_cases h0:d.N < 1∨1099511627736 - w.clock < d.N
  ·rw[Tr.rt (by simpa using h0),if_pos h0,Tr.rb (zll _),Tr.rl];rfl
  ·have h2:IntKind.i64.wrap ((zmk w).Clock+d.N)=w.clock+d.N:=zf (by show _≤w.clock+d.N;omega) (by show w.clock+d.N≤_;omega)
   rw[Tr.rf (by simp;omega),if_neg h0,Tr.rl,h2];rfl
 rw[if_neg c5,Tr.rf (by simpa using c5)]
 by_cases c6:d.Kind=6
 ·have hh:zbb (zmk w).P (zmk w).Clock=some (zn3 w.p w.clock):=zag9 (p:=w.p) h.fit
  rw[if_pos c6,Tr.rt (by simpa using c6),hh,Tr.rg (by rfl)]
  simp only[yy2]
  unfold zyn
  have e:(zd8 w).p=w.p:=rfl
  have e3:(zd8 w).clock=w.clock:=rfl
  rw[e,e3]
  by_cases h0:(zn3 w.p w.clock).2.2=0
  ·have hl:zi1 (zn3 w.p w.clock).2.1 0 { zmk w with Deeds:=w.deeds+1,P:=(zn3 w.p w.clock).1 } ⟨0,0⟩=_:=zalx (w:={ zd8 w with p:=(zn3 w.p w.clock).1 }) (zn3 w.p w.clock).2.1 ⟨0,0⟩
   rw[Tr.rf (by simpa using h0),if_neg (by simpa using h0),Tr.rb hl,Tr.rl];rfl
  ·rw[Tr.rt (by simpa using h0),if_pos h0,Tr.rb (zll _),Tr.rl,zaye h0];rfl
 rw[if_neg c6,Tr.rf (by simpa using c6)]
 by_cases b1:d.Kind < 4∨12 < d.Kind
 ·unfold zhl
  rw[if_pos b1,Tr.rt (by simp;omega),Tr.rb (zll _),Tr.rl];rfl
 rw[Tr.rf (by simp;omega)]
 by_cases b2:d.C < 0∨2≤d.C
 ·unfold zhl
  rw[if_neg b1,if_pos b2,Tr.rt (by simp;omega),Tr.rb (zll _),Tr.rl];rfl
 have hi:0≤d.C∧d.C < 2:=by omega
 rw[Tr.rf (by simp;omega),em]
 have hB:=zatd hm hi
 by_cases c4:d.Kind=4
 ·rw[if_pos c4] at hB
  unfold zhl
  rw[Tr.ri hB,Tr.rl,if_neg b1,if_neg b2,if_neg (by omega),if_pos c4]
 rw[if_neg c4] at hB
 rw[Tr.rj hB]
 simp only[]
 rw[Tr.rg hi]
 have eon:(zmk (zd8 w)).C.On.get d.C=(zd8 w).consumers.On.get d.C:=rfl
 rw[eon]
 cases c3:(zd8 w).consumers.On.get d.C with
 | false =>
  unfold zhl
  rw[Tr.rt (show (!false)=true from rfl),Tr.rb (zll _),Tr.rl,if_neg b1,if_neg b2,if_pos ⟨c4,c3⟩];rfl
 | true =>
  rw[Tr.rf (show (!true)=false from rfl),Tr.rg hi,Tr.rg hi]
  obtain ⟨r,r1,r2⟩:=zate hm (d:=d) hi (by omega) (by omega) c3
  rcases r2 with ⟨e,r2,r3⟩ | r2
  ·rw[r2] at r1
   rw[Tr.ri r1,Tr.rb (zll _),Tr.rl,r3]
  ·rw[r2] at r1
   rw[Tr.rj r1,Tr.rl]
def zbde (l:List Deed):Prop:=l.length≤4611686018427387904∧∀ d,d∈l→d.N≤9223372036854775807
def runW:List Deed→Wld→List Reply
 | [],_=>[]
 | d::l,w=>(doW w d).2::runW l (doW w d).1
theorem zahh:∀ (l:List Deed) (w:Wld),(runW l w).length=l.length
 | [],_=>rfl
 | d::l,w=>by rw[runW,List.length_cons,List.length_cons,zahh l]
theorem zatf {l:List Deed} (h:l.length*48≤140737488355328):zf9 l=some l:=by
 rw[zf9,zg4]
 refine Tr.run_split (fun h0=>?_) (fun _=>?_) (.inr trivial)
 ·rw[Tr.rl,List.length_eq_zero_iff.1 h0]
 ·rw[Tr.rg (by simp only[show ∀ l:List Deed,Sl.len (.deeds l)=l.length from fun _=>rfl,List.length_nil];omega),Tr.rl]
theorem z1d (l:List Deed):Sl.len (.deeds l)=l.length:=rfl
theorem z2w (l:List Reply):Sl.len (.replies l)=l.length:=rfl
theorem za0v {l:List Deed} (hl:l.length≤600) (hn:∀ d,d∈l→d.N≤9223372036854775807):zme l=some (runW l newW,0):=by
 have loop:ztl l.length 0 newW [] l=some (runW l newW):=by
  rw[ztl]
  have:=zbx (F:=fun s:Int×Int×Wld×(List Reply)×(List Deed)=>(zla s.1 s.2.1 s.2.2.1 s.2.2.2.1 s.2.2.2.2).run) l.length (fun i (t:Wld×List Reply)=>((l.length:Int),(i:Int),t.1,t.2,l)) (fun i t=>OkW t.1∧t.2.length=i) (fun i t=>t.2++runW (l.drop i) t.1) ?_ ?_ 0 (newW,[]) (Nat.zero_le _) ⟨zasz,rfl⟩
  ·rw[List.drop_zero] at this
   exact this
  ·rintro ⟨w,r⟩ ⟨h,hr⟩
   simp only[zla]
   rw[Tr.rf (by simp),Tr.rl,List.drop_length,runW,List.append_nil]
  ·rintro i ⟨w,r⟩ hi ⟨h,hr⟩
   simp only at h hr
   have hd:=hn _ (zbu (l:=l) (k:=i) hi default)
   refine .inl ⟨((doW w (l.getD i default)).1,r++[(doW w (l.getD i default)).2]),?_,⟨za0u h _,by simp[hr]⟩,?_⟩
   ·simp only[zla,yy4]
    rw[Tr.rt (by simpa using hi),Tr.rg ⟨by omega,by rw[z1d];omega⟩,Tr.rb (zbka h hd),Tr.rg (by simp only[z2w,yy5];omega),Tr.rl,zl (by omega)]
   ·simp only[]
    rw[z2 hi default,runW,List.append_assoc];rfl
 rw[zme,zyd,Tr.rf (by simp;omega),Tr.rb za4f,Tr.rb (zatf (by omega)),Tr.rb loop,Tr.rl]
theorem zaly {l:List Deed} (hl:600 < l.length):zme l=some ([],6):=by
 rw[zme,zyd,Tr.rt (by simp;omega),Tr.rl]
theorem zajt {l:List Deed} (hl:l.length*48≤140737488351232) (hn:zbde l):zlj l=some true:=by
 have h99:=za0v (l:=[(⟨99,0,0,0,0,false,false⟩:Deed)]) (by simp) (by intro d hd;rw[List.mem_singleton.1 hd];exact (by omega:(0:Int)≤9223372036854775807))
 have l99:(runW [(⟨99,0,0,0,0,false,false⟩:Deed)] newW).length=1:=zahh _ _
 rw[zlj,zto,Tr.rg (by rw[z1d];omega)]
 by_cases h6:600 < l.length
 ·rw[Tr.rb (zaly h6),Tr.rb h99,Tr.rt (by simp;omega),Tr.rl]
  simp only[l99];rfl
 ·have hr:=za0v (l:=l) (by omega) hn.2
  have hlen:(runW l newW).length=l.length:=zahh _ _
  have loop:zl5 l (runW l newW) 0 (zmk newW)=some (.inr ()):=by
   rw[zl5]
   have:=zbx (F:=fun s:(List Deed)×(List Reply)×Int×zt5=>(zfn s.1 s.2.1 s.2.2.1 s.2.2.2).run) l.length (fun i (w:Wld)=>(l,runW l newW,(i:Int),zmk w)) (fun i w=>OkW w∧runW (l.drop i) w=(runW l newW).drop i) (fun _ _=>.inr ()) ?_ ?_ 0 newW (Nat.zero_le _) ⟨zasz,by rw[List.drop_zero,List.drop_zero]⟩
   ·exact this
   ·rintro w ⟨h,_⟩
    simp only[zfn]
    rw[Tr.rf (by simp),Tr.rl]
   ·rintro i w hi ⟨h,hw⟩
    rw[z2 hi default,runW,z2 (l:=runW l newW) (by omega) default] at hw
    obtain ⟨q1,q2⟩:=List.cons.inj hw
    have hd:=hn.2 _ (zbu (l:=l) (k:=i) hi default)
    refine .inl ⟨(doW w (l.getD i default)).1,?_,⟨za0u h _,q2⟩,rfl⟩
    simp only[zfn,yy4]
    rw[Tr.rt (by simpa using hi),Tr.rg ⟨by omega,by rw[z2w];omega⟩,Tr.rg ⟨by omega,by rw[z1d];omega⟩,zayg h hd,Tr.rg (by rfl)]
    simp only[yy2]
    rw[Tr.rf (by rw[← q1];simp),Tr.rl,zl (by omega)]
  rw[Tr.rb hr,Tr.rb h99,Tr.rf (by simp;omega),Tr.rb zap3,Tr.rf (by simp only[l99,hlen];simp),Tr.rj loop,Tr.rl]
