/-
  The plain lemmas.
-/
import Derived.Test.YtobfadhgiaphnaaGreatXFCodec
import Derived.Test.YtobfadhgiaphnaaGreatXFCons
import Derived.Test.YtobfadhgiaphnaaGreatXFLine
import Derived.Test.YtobfadhgiaphnaaGreatXFProv
import Derived.Test.YtobfadhgiaphnaaGreatXFRefA
import Derived.Test.YtobfadhgiaphnaaGreatXFRefB
import Derived.Test.YtobfadhgiaphnaaGreatXFRefC
import Derived.Test.YtobfadhgiaphnaaGreatXFRefP
import Derived.Test.YtobfadhgiaphnaaGreatXFRefW
import Derived.Test.YtobfadhgiaphnaaGreatXFStakeA
import Derived.Test.YtobfadhgiaphnaaGreatXFStakeB
import Derived.Test.YtobfadhgiaphnaaGreatXFWld
import Derived.Test.YtobfadhgiaphnaaGreatXFWldLaw
import Derived.Test.YtobfadhgiaphnaaGreatXPlB
namespace Go.Proofs.YtobfadhgiaphnaaGreat.Ab
open Go Go.RowKit
open Go.IntKind (i64 u64)
set_option linter.unusedVariables false
set_option linter.unusedSimpArgs false
def dOf (p:za) (c:Int):List Power:=z00 (fP (p.Links.Told.get c)) (fP p.Set)
def pkOf (p:za) (c:Int):Packet:=⟨1,p.Height,0,0,dOf p c,p.Links.Done.get c⟩
def zsi (p:za) (c now:Int):zbs×Int:=sayL (zhm p.Links c) (zes (pkOf p c)).1 (now+40)
def za07 (p:za) (c now:Int):za :=
 { p with Links:={ p.Links with Told:=p.Links.Told.set c p.Set,Fresh:=p.Links.Fresh.set c false,Done:=p.Links.Done.set c [],Said:=p.Links.Said.set c (zsi p c now).1.Said,Due:=p.Links.Due.set c (zsi p c now).1.Due,Got:=p.Links.Got.set c (zsi p c now).1.Got,Closed:=p.Links.Closed.set c (zsi p c now).1.Closed } }
def z8m (p:za) (c:Int):Prop:=p.Links.On.get c=false∨(dOf p c=[]∧p.Links.Done.get c=[]∧p.Links.Fresh.get c=false)
instance (p:za) (c:Int):Decidable (z8m p c):=by
 have:Decidable (dOf p c=[]):=decidable_of_iff ((dOf p c).length=0) List.length_eq_zero_iff
 have:Decidable (p.Links.Done.get c=[]):=decidable_of_iff ((p.Links.Done.get c).length=0) List.length_eq_zero_iff
 exact inferInstanceAs (Decidable (_∨_))
def ze7 (p:za) (c now:Int):za :=
 if z8m p c then p else if (zes (pkOf p c)).2≠0 then p else if (zsi p c now).2≠0 then p else za07 p c now
structure zaee (p:za) (c:Int):Prop where
 t:(p.Links.Told.get c).length≤9223372036854775807
 s:p.Set.length≤6
 d:(p.Links.Done.get c).length≤6
 u:(p.Links.Due.get c).length≤9223372036854775807
theorem quiet_iff {p:za} {c:Int}:z8m p c↔p.Links.On.get c=false∨((dOf p c).length=0∧(p.Links.Done.get c).length=0∧p.Links.Fresh.get c=false):=by
 unfold z8m;rw[List.length_eq_zero_iff,List.length_eq_zero_iff]
theorem z6k {l:List Power} (h:l.length≤6):za1 l=some l:=by
 rw[za1,zft]
 refine Tr.run_split (fun h0=>?_) (fun _=>?_) (.inr trivial)
 ·rw[Tr.rl,List.length_eq_zero_iff.1 h0]
 ·rw[Tr.rg (by simp only[zo,List.length_nil];omega),Tr.rl]
theorem zau8 {p:za} {c now:Int} (hf:zaee p c) (hc:0≤c∧c < 2) (hn:0≤now∧now≤1099511627776):zmm c now p=some (ze7 p c now):=by
 obtain ⟨ft,fs,fd,fu⟩:=hf
 have hdl:(dOf p c).length≤6:=zagp _ _
 have hD:zf5 (p.Links.Told.get c) p.Set=some (dOf p c):=za0m ft (by omega)
 have hE:zb9 (⟨1,p.Height,0,0,dOf p c,p.Links.Done.get c⟩:Packet)=some (zes (pkOf p c)):=zady (by show (dOf p c).length*16≤_;omega) (by show (p.Links.Done.get c).length*8≤_;omega)
 rw[zmm,zun,Tr.rg hc,Tr.rg (by rw[hD];rfl),hD]
 simp only[yy2]
 unfold ze7
 by_cases hq:z8m p c
 ·rw[if_pos hq,Tr.rt (by
   rw[quiet_iff] at hq
   simp only[Bool.or_eq_true,yy7,Bool.not_eq_true',beq_iff_eq]
   rcases hq with h | ⟨h1,h2,h3⟩
   ·exact .inl h
   ·exact .inr ⟨⟨by omega,h3⟩,by omega⟩),Tr.rl]
 ·rw[if_neg hq,Tr.rf (by
   rw[Bool.eq_false_iff]
   intro h
   simp only[Bool.or_eq_true,yy7,Bool.not_eq_true',beq_iff_eq] at h
   refine hq (quiet_iff.2 ?_)
   rcases h with h | ⟨⟨h1,h2⟩,h3⟩
   ·exact .inl h
   ·exact .inr ⟨by omega,by omega,h2⟩),Tr.rg (by rw[hE];rfl),hE]
  simp only[yy2]
  by_cases he:(zes (pkOf p c)).2≠0
  ·rw[if_pos he,Tr.rt (by simpa using he),Tr.rl]
  ·rw[if_neg he,Tr.rf (by simpa using he),zg (x:=now+40) (by omega) (by omega),Tr.rb (za3w _ _ _)]
   by_cases hs:(zsi p c now).2≠0
   ·rw[if_pos hs,Tr.rt (by simpa[zsi] using hs),Tr.rl]
   ·rw[if_neg hs,Tr.rf (by simpa[zsi] using hs),Tr.rg (by rw[z6k fs];rfl),Tr.rl,z6k fs]
    rfl
theorem zaaw {p d:za} {l:List Int} {now:Int} {c:Nat} (hf:zaee p c) (hc:c < 2) (hn:0≤now∧now≤1099511627776) :
  (ze0 now l c d p).run=some (.inl (now,l,((c+1:Nat):Int),d,ze7 p c now)):=by
 obtain ⟨ft,fs,fd,fu⟩:=hf
 have hdl:(dOf p c).length≤6:=zagp _ _
 have hD:zkc (p.Links.Told.get c) p.Set=some (dOf p c):=zaq5 ft (by omega)
 have hE:za8 (⟨1,p.Height,0,0,dOf p c,p.Links.Done.get c⟩:Packet)=some (zes (pkOf p c)):=z21 (by show (dOf p c).length*16≤_;omega) (by show (p.Links.Done.get (c:Int)).length*8≤_;omega)
 simp only[ze0]
 rw[Tr.rt (by simp;omega),Tr.rg ⟨by omega,by omega⟩,Tr.rg (by rw[hD];rfl),hD]
 simp only[yy2]
 have hsum:i64.wrap (((dOf p c).length:Int)+((p.Links.Done.get (c:Int)).length:Int))=((dOf p c).length:Int)+((p.Links.Done.get (c:Int)).length:Int):=zg (by omega) (by omega)
 rw[hsum]
 unfold ze7
 by_cases hq:z8m p c
 ·rw[if_pos hq,Tr.rt (by
   rw[quiet_iff] at hq
   simp only[Bool.or_eq_true,yy7,Bool.not_eq_true',beq_iff_eq]
   rcases hq with h | ⟨h1,h2,h3⟩
   ·exact .inl h
   ·exact .inr ⟨by omega,h3⟩),Tr.rl,zl (by omega)]
 ·rw[if_neg hq,Tr.rf (by
   rw[Bool.eq_false_iff]
   intro h
   simp only[Bool.or_eq_true,yy7,Bool.not_eq_true',beq_iff_eq] at h
   refine hq (quiet_iff.2 ?_)
   rcases h with h | ⟨h1,h2⟩
   ·exact .inl h
   ·exact .inr ⟨by omega,by omega,h2⟩),Tr.rg (by rw[hE];rfl),hE]
  simp only[yy2]
  by_cases he:(zes (pkOf p c)).2≠0
  ·rw[if_pos he,Tr.rt (by simpa using he),Tr.rl,zl (by omega)]
  ·rw[if_neg he,Tr.rf (by simpa using he),zg (x:=now+40) (by omega) (by omega),Tr.rb (zak0 _ _ (by show (p.Links.Due.get (c:Int)).length≤_;exact fu))]
   by_cases hs:(zsi p c now).2≠0
   ·rw[if_pos hs,Tr.rt (by simpa[zsi] using hs),Tr.rl,zl (by omega)]
   ·rw[if_neg hs,Tr.rf (by simpa[zsi] using hs),Tr.rg (by rw[zo];omega),Tr.rl,zl (by omega)]
    rfl
def z3b (p:za) (now:Int):za:={ p with Height:=p.Height+1,Time:=now,Meter:=zajh p.Meter (allP p.Set) now }
def zeo (p:za) (now:Int):za×A2 Bool×List Asked:=p.Queue.foldl z91 (z3b p now,⟨false,false⟩,[])
def zrl (p:za) (now:Int):za :=
 { (zeo p now).1 with Stake:=(payS (zeo p now).1.Stake now).1,Set:=setS (payS (zeo p now).1.Stake now).1,Queue:=(zeo p now).2.2 }
def zpb (p:za) (now:Int):za×List Int×Int :=
 if zau p=true∧p.Time≤now∧now≤1099511627776 then (ze7 (ze7 (zrl p now) 0 now) 1 now,(payS (zeo p now).1.Stake now).2.1,0) else (p,[],2)
theorem zab0 (l:List Power):i6 (allP l):=by
 have:∀ (l:List Power) (t:Int),i6 t→i6 (l.foldl (fun t p=>i64.wrap (t+p.N)) t):=by
  intro l
  induction l with
  | nil=>intro t ht;exact ht
  | cons q l ih=>intro t _;exact ih _ (by show i6 (i64.wrap (t+q.N));rw[IntKind.wrap_i64];unfold i6;omega)
 exact this l 0 (by unfold i6;omega)
theorem zaef {p:za} {now:Int} (hg:zau p=true):DealI (z3b p now) (z3b p now):=by
 obtain ⟨g1,_,_,k0,k1,_⟩:=zet hg
 unfold okLk at k0 k1
 simp only[yy7] at k0 k1
 exact ⟨p.Stake,p.Links.Done,zajh p.Meter (allP p.Set) now,rfl,g1,k0.2,k1.2⟩
theorem zapt {p0:za}:∀ (l:List Asked) (i:Nat) (t:za×A2 Bool×List Asked),zals p0 i t→(∀ a,a∈l→(0≤a.C∧a.C < 2)∧a∈p0.Queue)→zals p0 (i+l.length) (l.foldl z91 t)
 | [],i,t,h,_=>h
 | a::l,i,t,h,ha=>by
  have:=zapt l (i+1) (z91 t a) (zajj h (ha a (List.mem_cons_self ..)).1 (ha a (List.mem_cons_self ..)).2) (fun b hb=>ha b (List.mem_cons_of_mem _ hb))
  rw[List.foldl_cons,List.length_cons,show i+(l.length+1)=i+1+l.length by omega]
  exact this
theorem zanw {p:za} (hg:zau p=true):∀ a,a∈p.Queue→zvl p a=true∧(0≤a.C∧a.C < 2):=by
 intro a ha
 have h:=List.all_eq_true.1 (zet hg).2.2.2.2.2 a ha
 refine ⟨h,?_⟩
 unfold zvl at h
 simp only[yy7,decide_eq_true_eq] at h
 exact h.1.1.1
theorem z8n {p:za} {now:Int} (hg:zau p=true):zals (z3b p now) p.Queue.length (zeo p now):=by
 have:=zapt (p0:=z3b p now) p.Queue 0 (z3b p now,⟨false,false⟩,[]) ⟨zaef hg,by simp,fun c hc=>by rcases (show c=0∨c=1 by omega) with rfl | rfl<;>rfl,fun b hb=>by cases hb⟩ (fun a ha=>⟨(zanw hg a ha).2,ha⟩)
 rwa [Nat.zero_add] at this
theorem zab1 {p:za} (hf:FitPr 140737488351232 p) {now:Int} (hg:zau p=true) (c:Int):zaee (zrl p now) c:=by
 have hq:=z8n (now:=now) hg
 obtain ⟨S,D,M,e,hS,d0,d1⟩:=hq.1
 have ht:=hf.told c
 have hu:=hf.due c
 refine ⟨?_,z2z _,?_,?_⟩
 ·show ((zeo p now).1.Links.Told.get c).length≤_
  rw[e];show (p.Links.Told.get c).length≤_;omega
 ·show ((zeo p now).1.Links.Done.get c).length≤6
  exact z3t hq.1.get
 ·show ((zeo p now).1.Links.Due.get c).length≤_
  rw[e];show (p.Links.Due.get c).length≤_;omega
theorem zapu {p:za} {now:Int} (h:zaee p 1):zaee (ze7 p 0 now) 1:=by
 unfold ze7
 split
 ·exact h
 ·split
  ·exact h
  ·split
   ·exact h
   ·exact ⟨h.t,h.s,h.d,h.u⟩
theorem zab2 {p:za} {now:Int}:(((!zau p)||(decide (now < p.Time)))||(decide (now > 1099511627776))) = !decide (zau p=true∧p.Time≤now∧now≤1099511627776):=by
 rw[Bool.eq_iff_iff]
 simp only[Bool.or_eq_true,Bool.not_eq_true',decide_eq_true_eq,yy8]
 cases zau p<;>simp<;>omega
theorem zars {p:za} (hf:FitPr 140737488351232 p) {now:Int}:zd8 p now=some (zpb p now):=by
 have hset:=hf.set
 rw[zd8,zxh,Tr.rb (znb hf)]
 unfold zpb
 by_cases hg:zau p=true∧p.Time≤now∧now≤1099511627776
 ·obtain ⟨hg1,hg2⟩:=hg
  have hnum:=(zet hg1).2.1
  unfold zyt at hnum
  rw[if_pos ⟨hg1,hg2⟩,Tr.rf (by rw[zab2,decide_eq_true ⟨hg1,hg2⟩];rfl),Tr.rg (by rw[za31 (by omega)];rfl),za31 (by omega)]
  simp only[yy2]
  rw[Tr.rg (by rw[zapo (zab0 _)];rfl),zapo (zab0 _),zg (x:=p.Height+1) (by omega) (by omega)]
  simp only[yy2]
  have hloop:=za06 (p0:=z3b p now) (q:=p) (now:=now) (d:=default) (l:=p.Queue) (p:=z3b p now) (zaef hg1) hf.queue (fun a ha=>⟨(zanw hg1 a ha).1,ha⟩)
  have hinv:=z8n (now:=now) hg1
  have hgs:GoodS (zeo p now).1.Stake:=hinv.1.good
  have hpay:=zajf hgs now
  have hz:(payS (zeo p now).1.Stake now).2.2=0:=by rw[zaum hgs]
  rw[Tr.rb (show zjy now p.Queue ((p.Queue.length:Nat):Int) 0 (⟨p.Height+1,now,p.Stake,p.Set,p.Links,zajh p.Meter (allP p.Set) now,p.Queue⟩:za) default ⟨false,false⟩ []=some (now,(zeo p now).1,default,(zeo p now).2.2) from hloop)]
  simp only[]
  rw[Tr.rb (show zv2 (zeo p now).1.Stake now=_ from zbhp),Tr.rf (by rw[hz];rfl),Tr.rb (zbhr hpay)]
  have h0:=zau8 (now:=now) (zab1 hf (now:=now) hg1 0) (by omega) (by omega)
  have h1:=zau8 (now:=now) (zapu (now:=now) (zab1 hf (now:=now) hg1 1)) (by omega) (by omega)
  rw[Tr.rb (v:=((payS (zeo p now).1.Stake now).2.1,ze7 (ze7 (zrl p now) 0 now) 1 now,default)) (by
   show zog now (payS (zeo p now).1.Stake now).2.1 0 (zrl p now) default=_
   rw[zog,zab (s':=(now,(payS (zeo p now).1.Stake now).2.1,((1:Nat):Int),ze7 (zrl p now) 0 now,default)) (by
     simp only[zhe]
     rw[Tr.rt (by simp),Tr.rb h0,Tr.rl];rfl),
    zab (s':=(now,(payS (zeo p now).1.Stake now).2.1,((2:Nat):Int),ze7 (ze7 (zrl p now) 0 now) 1 now,default)) (by
     simp only[zhe]
     rw[Tr.rt (by simp)]
     rw[Tr.rb (show zmm ((1:Nat):Int) now _=_ from h1),Tr.rl];rfl),
    zba (by
     simp only[zhe]
     rw[Tr.rf (by simp),Tr.rl])]),Tr.rl]
 ·rw[if_neg hg,Tr.rt (by rw[zab2,decide_eq_false hg];rfl),Tr.rl]
theorem zajk {p:za} (hf:FitPr 140737488351232 p) {now:Int}:zbj p now=some (zpb p now):=by
 have hset:=hf.set
 rw[zbj,zp3,Tr.rb (zgp hf)]
 unfold zpb
 by_cases hg:zau p=true∧p.Time≤now∧now≤1099511627776
 ·obtain ⟨hg1,hg2⟩:=hg
  have hnum:=(zet hg1).2.1
  unfold zyt at hnum
  rw[if_pos ⟨hg1,hg2⟩,Tr.rf (by rw[zab2,decide_eq_true ⟨hg1,hg2⟩];rfl),Tr.rb (zqc hf),Tr.rg (by rw[zapf (by omega)];rfl),zapf (by omega)]
  simp only[yy2]
  rw[Tr.rg (by rw[zaec (zab0 _)];rfl),zaec (zab0 _),zg (x:=p.Height+1) (by omega) (by omega)]
  simp only[yy2]
  have hloop:=zanv (p0:=z3b p now) (q:=p) (now:=now) (d:=default) (l:=p.Queue) (p:=z3b p now) (zaef hg1) hf.queue (fun a ha=>⟨(zanw hg1 a ha).1,ha⟩)
  have hinv:=z8n (now:=now) hg1
  have hgs:GoodS (zeo p now).1.Stake:=hinv.1.good
  have hpay:=zajf hgs now
  rw[Tr.rb (show zgf now ((p.Queue.length:Nat):Int) 0 default (⟨p.Height+1,now,p.Stake,p.Set,p.Links,zajh p.Meter (allP p.Set) now,[]⟩:za) p.Queue=some (now,default,zabg (zeo p now).1 (zeo p now).2.2) from hloop)]
  simp only[]
  rw[Tr.rb (show ztc (zabg (zeo p now).1 (zeo p now).2.2).Stake now=some (payS (zeo p now).1.Stake now) from zaud),Tr.rb (zauj hpay)]
  have h0:=fun d l=>zaaw (c:=0) (d:=d) (l:=l) (now:=now) (zab1 hf (now:=now) hg1 0) (by omega) (by omega)
  have h1:=fun d l=>zaaw (c:=1) (d:=d) (l:=l) (now:=now) (zapu (now:=now) (zab1 hf (now:=now) hg1 1)) (by omega) (by omega)
  rw[Tr.rb (v:=((payS (zeo p now).1.Stake now).2.1,default,ze7 (ze7 (zrl p now) 0 now) 1 now)) (by
   show zki now (payS (zeo p now).1.Stake now).2.1 0 default (zrl p now)=_
   rw[zki,zab (s':=(now,(payS (zeo p now).1.Stake now).2.1,((1:Nat):Int),default,ze7 (zrl p now) 0 now)) (h0 _ _),
    zab (s':=(now,(payS (zeo p now).1.Stake now).2.1,((2:Nat):Int),default,ze7 (ze7 (zrl p now) 0 now) 1 now)) (h1 _ _),
    zba (by
     simp only[ze0]
     rw[Tr.rf (by simp),Tr.rl])]),Tr.rl]
 ·rw[if_neg hg,Tr.rt (by rw[zab2,decide_eq_false hg];rfl),Tr.rl]
theorem zart:zau zarn=true:=by decide
theorem zef (l:List Asked):Sl.len (.asked l)=l.length:=rfl
theorem zaru {s:Stake} (hg:GoodS s) {v h:Int} (hv:0≤v∧v < 6):(zkp s v h 50).2.2=0:=by
 unfold zkp
 rw[if_neg (by rw[zag0 hg (by omega) hv];simp),if_neg (by omega)]
theorem zau9 {s:Stake} (hg:GoodS s) {v:Int} (hv:0≤v∧v < 6) (hd:s.Validators.Dead.get v=false):(zda s v 2).2=0:=by
 unfold zda
 rw[if_neg (by rw[zag0 hg (by omega) hv];simp),if_neg (by omega),if_neg (by rw[hd];simp),if_neg (by omega)]
theorem zarv (s:Stake) (v h f:Int):(zkp s v h f).1.Validators.Dead=s.Validators.Dead:=by
 unfold zkp
 repeat' split
 all_goals rfl
def zyu (p:za) (v h:Int):za×Int :=
 if zau p=false then (p,2) else if 0≤v∧v < 6 then (if 1≤h∧h≤p.Height then (if p.Stake.Validators.Dead.get v=true then (p,15) else ({ p with Stake:=(zda (zkp p.Stake v h 50).1 v 2).1 },0)) else (p,2)) else (p,4)
theorem zaeg {p:za} (hf:FitPr 140737488351232 p) {v h:Int}:zll p v h=some (zyu p v h):=by
 rw[zll,zm2,Tr.rb (znb hf)]
 unfold zyu
 cases hg:zau p with
 | false=>rw[zpa,Tr.rl,if_pos rfl]
 | true =>
  rw[zo9,if_neg (by simp)]
  by_cases hv:0≤v∧v < 6
  ·rw[Tr.rf (by simp;omega),if_pos hv]
   by_cases hh:1≤h∧h≤p.Height
   ·rw[Tr.rf (by simp;omega),if_pos hh,Tr.rg hv]
    cases hd:p.Stake.Validators.Dead.get v with
    | true=>rw[Tr.rt rfl,Tr.rl,if_pos rfl]
    | false =>
     have hs:=(zet hg).1
     rw[Tr.rf rfl,if_neg (by simp),Tr.rb zaja,Tr.rf (by rw[zaru hs hv];rfl),Tr.rb zane,Tr.rf (by rw[zau9 (z3a hs v h 50) hv (by rw[zarv];exact hd)];rfl),Tr.rl]
   ·rw[Tr.rt (by simp;omega),Tr.rl,if_neg hh]
  ·rw[Tr.rt (by simp;omega),Tr.rl,if_neg hv]
theorem zafr {p:za} (hf:FitPr 140737488351232 p) {v h:Int}:zhj p v h=some (zyu p v h):=by
 rw[zhj,zxn,Tr.rb (zgp hf)]
 unfold zyu
 cases hg:zau p with
 | false=>rw[zpa,Tr.rl,if_pos rfl]
 | true =>
  rw[zo9,if_neg (by simp)]
  by_cases hv:0≤v∧v < 6
  ·rw[Tr.rf (by simp;omega),if_pos hv]
   by_cases hh:1≤h∧h≤p.Height
   ·rw[Tr.rf (by simp;omega),if_pos hh,Tr.rg hv]
    cases hd:p.Stake.Validators.Dead.get v with
    | true=>rw[Tr.rt rfl,Tr.rl,if_pos rfl]
    | false =>
     have hs:=(zet hg).1
     rw[Tr.rf rfl,if_neg (by simp),Tr.rb (zqc hf),Tr.rb z6i,Tr.rb zabv,Tr.rl]
   ·rw[Tr.rt (by simp;omega),Tr.rl,if_neg hh]
  ·rw[Tr.rt (by simp;omega),Tr.rl,if_neg hv]
def zss (p:za) (c:Int) (s:List UInt8):za×Int :=
 if zau p=false then (p,2) else if (0≤c∧c < 2)∧p.Links.On.get c=true then (if (zaz s).2≠0 then (p,(zaz s).2) else if (zaz s).1.Kind=1 then (p,3) else ({ p with Queue:=p.Queue++[⟨c,(zaz s).1⟩] },0)) else (p,4)
theorem zag9 {l:List Asked} (h:l.length*88≤140737488351232):zbc l=some l:=by
 rw[zbc,zgz]
 refine Tr.run_split (fun h0=>?_) (fun _=>?_) (.inr trivial)
 ·rw[Tr.rl,List.length_eq_zero_iff.1 h0]
 ·rw[Tr.rg (by simp only[zef,List.length_nil];omega),Tr.rl]
theorem zanx {p:za} (hf:FitPr 140737488351232 p) {c:Int} {a:ByteArray} (ha:a.size≤140737488355328):zbt p c a=some (zss p c a.data.toList):=by
 have e1:zg6 a=some (zaz a.data.toList):=zak4 (s:=a.data.toList) (by have:a.data.toList.length=a.size:=rfl;omega)
 have hq:=hf.queue
 rw[zbt,zul,Tr.rb e1,Tr.rb (znb hf)]
 simp only[zag9 hf.queue,Option.isSome_some,yy2]
 unfold zss
 cases hg:zau p with
 | false=>rw[zpa,Tr.rl,if_pos rfl]
 | true =>
  rw[zo9,if_neg (by simp),Tr.rg (by
   intro h0
   simp only[Bool.or_eq_false_iff,yy8] at h0
   exact ⟨by omega,trivial⟩)]
  by_cases hc:(0≤c∧c < 2)∧p.Links.On.get c=true
  ·rw[if_pos hc,Tr.rf (by rw[hc.2];simp;omega)]
   by_cases hd:(zaz a.data.toList).2=0
   ·rw[Tr.rf (by simpa using hd),if_neg (by simpa using hd)]
    by_cases hk:(zaz a.data.toList).1.Kind=1
    ·rw[Tr.rt (by simpa using hk),if_pos hk,Tr.rl]
    ·rw[Tr.rf (by simpa using hk),if_neg hk,Tr.rg (by trivial),Tr.rg (by simp only[zef,yy5];omega),Tr.rl]
   ·rw[Tr.rt (by simpa using hd),if_pos hd,Tr.rl]
  ·rw[if_neg hc,Tr.rt (by
    simp only[Bool.or_eq_true,decide_eq_true_eq,Bool.not_eq_true']
    by_cases h1:0≤c∧c < 2
    ·exact .inr (Bool.eq_false_iff.2 (fun h2=>hc ⟨h1,h2⟩))
    ·exact .inl (by omega)),Tr.rl]
theorem zafs {p:za} (hf:FitPr 140737488351232 p) {c:Int} {a:ByteArray} (ha:a.size≤140737488355328):zcl p c a=some (zss p c a.data.toList):=by
 have e1:zds a=some (zaz a.data.toList):=zaas (s:=a.data.toList) (by have:a.data.toList.length=a.size:=rfl;omega)
 have hq:=hf.queue
 rw[zcl,zot,Tr.rb (zgp hf)]
 unfold zss
 cases hg:zau p with
 | false=>rw[zpa,Tr.rl,if_pos rfl]
 | true =>
  rw[zo9,if_neg (by simp),Tr.rg (by
   intro h0
   simp only[Bool.or_eq_false_iff,yy8] at h0
   exact ⟨by omega,trivial⟩)]
  by_cases hc:(0≤c∧c < 2)∧p.Links.On.get c=true
  ·rw[if_pos hc,Tr.rf (by rw[hc.2];simp;omega),Tr.rb e1]
   by_cases hd:(zaz a.data.toList).2=0
   ·rw[Tr.rf (by simpa using hd),if_neg (by simpa using hd)]
    by_cases hk:(zaz a.data.toList).1.Kind=1
    ·rw[Tr.rt (by simpa using hk),if_pos hk,Tr.rl]
    ·rw[Tr.rf (by simpa using hk),if_neg hk,Tr.rb (zqc hf),Tr.rg (by simp only[zef,yy5];omega),Tr.rl]
   ·rw[Tr.rt (by simpa using hd),if_pos hd,Tr.rl]
  ·rw[if_neg hc,Tr.rt (by
    simp only[Bool.or_eq_true,decide_eq_true_eq,Bool.not_eq_true']
    by_cases h1:0≤c∧c < 2
    ·exact .inr (Bool.eq_false_iff.2 (fun h2=>hc ⟨h1,h2⟩))
    ·exact .inl (by omega)),Tr.rl]
theorem zaeh {p:Packet} (h:zgt p=0):p.Set.length≤6∧p.Done.length≤6:=by
 obtain ⟨_,_,_,_,_,_,_,_,g9,g10,_⟩:=zp8 h
 have l1:=zlb g9 (by omega)
 exact ⟨by omega,z3t g10⟩
theorem zapv {s:List UInt8} (h:(zaz s).2=0):zgt (zaz s).1=0:=by
 unfold zaz at h ⊢
 split
 ·rename_i k;rw[if_pos k] at h;cases h
 ·rename_i k
  rw[if_neg k] at h
  split
  ·rename_i k2;rw[if_pos k2] at h;exact absurd h k2
  ·rename_i k2;exact Classical.not_not.1 k2
def zlh (L:Links) (c H:Int) (T:List Power) (f:Bool):Links :=
 ⟨L.On.set c true,L.Gone.set c false,L.Base.set c H,L.Told.set c T,L.Fresh.set c f,L.Done.set c [],L.Said.set c [],L.Due.set c [],L.Got.set c 0,L.Closed.set c false,L.SHeight.set c 0,L.STime.set c 0,L.SSaid.set c 0,L.SGot.set c 0⟩
def znn (p:za) (c:Int) (W:List Wait) (f:Bool):za:={ p with Stake:={ p.Stake with Waits:=W },Links:=zlh p.Links c p.Height p.Set f }
def zkr (c H:Int) (w:Wait):Wait:=if H < w.Height then { w with h0:=if c=0 then w.Height else w.h0,h1:=if c=1 then w.Height else w.h1 } else w
def z6o (p:za):Bool:=p.Stake.Waits.any (fun w=>decide (p.Height < w.Height))
def zgq (p:za) (c:Int):za×Int :=
 if zau p=false then (p,2) else if 0≤c∧c < 2 then (if p.Links.Gone.get c=true then (p,11) else if p.Links.On.get c=true then (p,5) else if p.Height < 1∨p.Set.length=0 then (p,13)
  else (znn p c (p.Stake.Waits.map (zkr c p.Height)) (z6o p),0)) else (p,4)
theorem zajl {α:Type} (q:α→Bool):∀ (l:List α) (b:Bool),l.foldl (fun t w=>t||q w) b=(b||l.any q)
 | [],b=>by simp
 | a::l,b=>by rw[List.foldl_cons,zajl q l,List.any_cons,Bool.or_assoc]
theorem zaha {α:Type} (a:A2 α) (c:Int) (x y:α):(a.set c x).set c y=a.set c y:=by
 unfold A2.set
 by_cases h:c=0
 ·subst h;rfl
 ·by_cases h1:c=1
  ·subst h1;rfl
  ·simp[h,h1]
theorem za33 {l W:List Wait} {i:Nat} {w:Wait} (hi:i < W.length) (hg:W.getD i default=w):W.set i w=W:=by rw[← hg,z3o hi]
theorem zarw {p z:za} {c:Int} (hc:0≤c∧c < 2) (hw:p.Stake.Waits.length*64≤140737488351232) :
  zlk c p.Stake.Waits.length 0 (znn p c p.Stake.Waits false) z=some (znn p c (p.Stake.Waits.map (zkr c p.Height)) (z6o p),z):=by
 rw[zlk]
 have:=z3p (F:=fun s:Int×Int×Int×za×za=>(zfl s.1 s.2.1 s.2.2.1 s.2.2.2.1 s.2.2.2.2).run) p.Stake.Waits default
  (fun i W (f:Bool)=>(c,(p.Stake.Waits.length:Int),(i:Int),znn p c W f,z)) (fun _ _=>True) (zkr c p.Height) (fun t w=>t||decide (p.Height < w.Height)) (fun W f=>(znn p c W f,z)) ?_ ?_ false trivial
 ·rw[zajl] at this
  exact this
 ·intro W t hW _
  simp only[zfl];rw[Tr.rf (by simp),Tr.rl]
 ·intro i W t hi hW hg _
  refine ⟨?_,trivial⟩
  simp only[zfl]
  rw[yy4,show (znn p c W t).Stake.Waits=W from rfl,hg,show (znn p c W t).Height=p.Height from rfl]
  generalize hw':p.Stake.Waits.getD i default=w at hg ⊢
  rw[Tr.rt (by simpa using hi),Tr.rg ⟨by omega,by rw[z2];omega⟩]
  by_cases hp:p.Height < w.Height
  ·rw[Tr.rt (by simpa using hp),Tr.rg hc,Tr.rg hc,Tr.rl,zl (by omega)]
   have e:zkr c p.Height w={ w with h0:=if c=0 then w.Height else w.h0,h1:=if c=1 then w.Height else w.h1 }:=if_pos hp
   rw[e,decide_eq_true hp,Bool.or_true]
   rw[show (znn p c W t).Links.Fresh=p.Links.Fresh.set c t from rfl,zaha]
   rfl
  ·rw[Tr.rf (by simpa using hp),Tr.rl,zl (by omega)]
   have e:zkr c p.Height w=w:=if_neg hp
   rw[e,decide_eq_false hp,Bool.or_false,za33 (l:=W) (by omega) hg]
theorem zalt {p:za} (hf:FitPr 140737488351232 p) {c:Int}:za3 p c=some (zgq p c):=by
 rw[za3,zr5,Tr.rb (znb hf)]
 unfold zgq
 cases hg:zau p with
 | false=>rw[zpa,Tr.rl,if_pos rfl]
 | true =>
  rw[zo9,if_neg (by simp)]
  by_cases hc:0≤c∧c < 2
  ·rw[Tr.rf (by simp;omega),if_pos hc,Tr.rg hc]
   cases h1:p.Links.Gone.get c with
   | true=>rw[Tr.rt rfl,Tr.rl,if_pos rfl]
   | false =>
    rw[Tr.rf rfl,if_neg (by simp),Tr.rg hc]
    cases h2:p.Links.On.get c with
    | true=>rw[Tr.rt rfl,Tr.rl,if_pos rfl]
    | false =>
     rw[Tr.rf rfl,if_neg (by simp)]
     have hs:=zlb (zet hg).2.2.1 (by omega)
     by_cases h3:p.Height < 1∨p.Set.length=0
     ·rw[if_pos h3,Tr.rt (by simp only[Bool.or_eq_true,decide_eq_true_eq,beq_iff_eq];omega),Tr.rl]
     ·have hcl:=z6k (l:=p.Set) (by omega)
      rw[if_neg h3,Tr.rf (by simp only[Bool.or_eq_false_iff,yy8,beq_eq_false_iff_ne];omega),Tr.rg (by rw[hcl];rfl),Tr.rg hc,Tr.rb (z8b hf.waits),hcl,Tr.rb (v:=(znn p c (p.Stake.Waits.map (zkr c p.Height)) (z6o p),default)) (by exact zarw hc hf.waits),Tr.rl]
  ·rw[Tr.rt (by simp;omega),Tr.rl,if_neg hc]
theorem zajm {p z:za} {c:Int} (hc:0≤c∧c < 2) (hw:p.Stake.Waits.length*64≤140737488351232) :
  zu3 c p.Stake.Waits p.Stake.Waits.length 0 p z (znn p c p.Stake.Waits false)=some (z,znn p c (p.Stake.Waits.map (zkr c p.Height)) (z6o p)):=by
 rw[zu3]
 have:=z3p (F:=fun s:Int×(List Wait)×Int×Int×za×za×za=>(zmd s.1 s.2.1 s.2.2.1 s.2.2.2.1 s.2.2.2.2.1 s.2.2.2.2.2.1 s.2.2.2.2.2.2).run) p.Stake.Waits default
  (fun i W (f:Bool)=>(c,p.Stake.Waits,(p.Stake.Waits.length:Int),(i:Int),p,z,znn p c W f)) (fun _ _=>True) (zkr c p.Height) (fun t w=>t||decide (p.Height < w.Height)) (fun W f=>(z,znn p c W f)) ?_ ?_ false trivial
 ·rw[zajl] at this
  exact this
 ·intro W t hW _
  simp only[zmd];rw[Tr.rf (by simp),Tr.rl]
 ·intro i W t hi hW hg _
  refine ⟨?_,trivial⟩
  simp only[zmd]
  rw[yy4,show (znn p c W t).Stake.Waits=W from rfl,hg]
  generalize hw':p.Stake.Waits.getD i default=w at hg ⊢
  rw[Tr.rt (by simpa using hi),Tr.rg ⟨by omega,by rw[z2];omega⟩]
  by_cases hp:p.Height < w.Height
  ·rw[Tr.rt (by simpa using hp),Tr.rg ⟨by omega,by rw[z2];omega⟩,Tr.rg hc,Tr.rg hc,Tr.rl,zl (by omega)]
   have e:zkr c p.Height w={ w with h0:=if c=0 then w.Height else w.h0,h1:=if c=1 then w.Height else w.h1 }:=if_pos hp
   rw[e,decide_eq_true hp,Bool.or_true]
   rw[show (znn p c W t).Links.Fresh=p.Links.Fresh.set c t from rfl,zaha]
   rfl
  ·rw[Tr.rf (by simpa using hp),Tr.rl,zl (by omega)]
   have e:zkr c p.Height w=w:=if_neg hp
   rw[e,decide_eq_false hp,Bool.or_false,za33 (l:=W) (by omega) hg]
theorem zaei {p:za} (hf:FitPr 140737488351232 p) {c:Int}:zdk p c=some (zgq p c):=by
 rw[zdk,z6a,Tr.rb (zgp hf)]
 unfold zgq
 cases hg:zau p with
 | false=>rw[zpa,Tr.rl,if_pos rfl]
 | true =>
  rw[zo9,if_neg (by simp)]
  by_cases hc:0≤c∧c < 2
  ·rw[Tr.rf (by simp;omega),if_pos hc,Tr.rg hc]
   cases h1:p.Links.Gone.get c with
   | true=>rw[Tr.rt rfl,Tr.rl,if_pos rfl]
   | false =>
    rw[Tr.rf rfl,if_neg (by simp),Tr.rg hc]
    cases h2:p.Links.On.get c with
    | true=>rw[Tr.rt rfl,Tr.rl,if_pos rfl]
    | false =>
     rw[Tr.rf rfl,if_neg (by simp)]
     have hs:=zlb (zet hg).2.2.1 (by omega)
     have hn:=(zet hg).2.1.1
     by_cases h3:p.Height < 1∨p.Set.length=0
     ·rw[if_pos h3,Tr.rt (by simp only[Bool.or_eq_true,decide_eq_true_eq,beq_iff_eq];omega),Tr.rl]
     ·rw[if_neg h3,Tr.rf (by simp only[Bool.or_eq_false_iff,yy8,beq_eq_false_iff_ne];omega),Tr.rb (zqc hf),Tr.rg (by rw[zo];omega),Tr.rg hc,Tr.rb (v:=(default,znn p c (p.Stake.Waits.map (zkr c p.Height)) (z6o p))) (by exact zajm hc hf.waits),Tr.rl]
  ·rw[Tr.rt (by simp;omega),Tr.rl,if_neg hc]
def zwl (L:Links) (c:Int):Links:={ L with On:=L.On.set c false,Gone:=L.Gone.set c true,Fresh:=L.Fresh.set c false,Done:=L.Done.set c [],Closed:=L.Closed.set c true }
def z8o (c:Int) (a:Asked):Bool:=a.C != c
def z8p (p:za) (c:Int):za:={ p with Stake:=zmn p.Stake c 1099511627776,Links:=zwl p.Links c,Queue:=p.Queue.filter (z8o c) }
def ztj (p:za) (c:Int):za:=if zau p=true∧(0≤c∧c < 2)∧p.Links.On.get c=true then z8p p c else p
theorem za34 (a:Asked) (c:Int):zgv a c=some (!z8o c a,c):=by
 rw[zgv,zm0,Tr.rl]
 unfold z8o
 simp[bne]
theorem zld {α:Type} {l:List α} {i:Nat} (h:i < l.length) (d:α):l.take (i+1)=l.take i++[l.getD i d]:=by
 rw[List.take_succ_eq_append_getElem h,ztq h]
theorem zarx {l:List Asked} {c:Int} (hl:l.length*88≤140737488351232) :
  ∃ r,zcw l.length 0 c l=some r ∧
   (match r with | .inl y=>∃ k:Nat,y=((k:Int),c,l)∧k < l.length∧(l.take k).all (z8o c)=true∧z8o c (l.getD k default)=false | .inr y=>y=(c,l)∧l.all (z8o c)=true):=by
 rw[zcw]
 have:=zgg (F:=fun s:Int×Int×Int×(List Asked)=>(zat s.1 s.2.1 s.2.2.1 s.2.2.2).run) l.length (fun i (_:Unit)=>((l.length:Int),(i:Int),c,l)) (fun i _=>(l.take i).all (z8o c)=true)
  (fun i _ r=>match r with | .inl y=>∃ k:Nat,y=((k:Int),c,l)∧k < l.length∧(l.take k).all (z8o c)=true∧z8o c (l.getD k default)=false | .inr y=>y=(c,l)∧l.all (z8o c)=true) ?_ ?_ 0 () (Nat.zero_le _) rfl
 ·exact this
 ·intro t h
  refine ⟨.inr (c,l),?_,rfl,by rwa [List.take_length] at h⟩
  simp only[zat];rw[Tr.rf (by simp),Tr.rl]
 ·intro i t hi h
  simp only[zat]
  rw[yy4,Tr.rt (by simpa using hi),Tr.rg ⟨by omega,by rw[zef];omega⟩,Tr.rb (za34 _ _)]
  cases hn:z8o c (l.getD i default) with
  | true=>exact .inl ⟨(),by rw[Tr.rf (by rfl),Tr.rl,zl (by omega)],by rw[zld hi default,List.all_append,h,List.all_cons,hn];rfl,fun r hr=>hr⟩
  | false=>exact .inr ⟨.inl ((i:Int),c,l),by rw[Tr.rt (by rfl),Tr.rl],i,rfl,hi,h,hn⟩
theorem zany {l:List Asked} {c:Int} (hl:l.length*88≤140737488351232) {k:Nat} (hk:k < l.length) (ha:(l.take k).all (z8o c)=true) (hn:z8o c (l.getD k default)=false) :
  ∃ r,zc3 k ((k+1:Nat):Int) c l=some r∧∃ n:Nat,r.1=n∧r.2.1=c∧n≤l.length∧r.2.2.length=l.length∧r.2.2.take n=l.filter (z8o c):=by
 rw[zc3]
 have:=zgg (F:=fun s:Int×Int×Int×(List Asked)=>(zay s.1 s.2.1 s.2.2.1 s.2.2.2).run) l.length (fun i (t:Nat×List Asked)=>((t.1:Int),(i:Int),c,t.2)) (fun i t=>t.1 < i∧t.2.length=l.length∧t.2.take t.1=(l.take i).filter (z8o c)∧t.2.drop i=l.drop i)
  (fun i _ r=>∃ n:Nat,r.1=n∧r.2.1=c∧n≤l.length∧r.2.2.length=l.length∧r.2.2.take n=l.filter (z8o c)) ?_ ?_ (k+1) (k,l) (by omega) ⟨by omega,rfl,?_,rfl⟩
 ·exact this
 ·rintro ⟨n,W⟩ ⟨h1,h2,h3,h4⟩
  simp only at h1 h2 h3 h4
  refine ⟨((n:Int),c,W),?_,n,rfl,rfl,by omega,h2,by rw[h3,List.take_length]⟩
  simp only[zay];rw[Tr.rf (by simp;omega),Tr.rl]
 ·rintro i ⟨n,W⟩ hi ⟨h1,h2,h3,h4⟩
  simp only at h1 h2 h3 h4
  have hg:W.getD i default=l.getD i default:=by
   have e1:=z6 (l:=W) (k:=i) (by omega) default
   have e2:=z6 (l:=l) (k:=i) hi default
   rw[h4,e2] at e1
   exact (List.cons.inj e1).1.symm
  have hd:W.drop (i+1)=l.drop (i+1):=by
   have e1:=z6 (l:=W) (k:=i) (by omega) default
   have e2:=z6 (l:=l) (k:=i) hi default
   rw[h4,e2] at e1
   exact (List.cons.inj e1).2.symm
  simp only[zay]
  rw[yy4,yy4,hg,Tr.rt (by simp;omega),Tr.rg ⟨by omega,by rw[zef];omega⟩,Tr.rb (za34 _ _)]
  cases hq:z8o c (l.getD i default) with
  | true =>
   refine .inl ⟨(n+1,W.set n (l.getD i default)),by rw[Tr.rt (by rfl),Tr.rg ⟨by omega,by rw[zef];omega⟩,Tr.rl,zl (by omega),zl (by omega)],⟨by simp only[];omega,by simp only[List.length_set];exact h2,?_,?_⟩,fun r hr=>hr⟩
   ·simp only[]
    rw[zld (by rw[List.length_set];omega) default,List.take_set_of_le (by omega),h3,zld hi default,List.filter_append,ztq (by rw[List.length_set];omega),List.getElem_set_self,List.filter_cons,hq]
    rfl
   ·simp only[]
    rw[List.drop_set_of_lt (by omega),hd]
  | false =>
   refine .inl ⟨(n,W),by rw[Tr.rf (by rfl),Tr.rl,zl (by omega)],⟨by simp only[];omega,h2,?_,hd⟩,fun r hr=>hr⟩
   simp only[]
   rw[h3,zld hi default,List.filter_append,List.filter_cons,hq]
   simp
 ·simp only[]
  rw[zld hk default,List.filter_append,List.filter_cons,hn,List.filter_eq_self.2 (fun a h=>List.all_eq_true.1 ha a h)]
  simp
theorem zary {l:List Asked} {c:Int} (hl:l.length*88≤140737488351232):zd7 c l=some (c,l.filter (z8o c)):=by
 have hi:zbu c l=some (-1,c,l)∧l.all (z8o c)=true∨∃ k:Nat,zbu c l=some ((k:Int),c,l)∧k < l.length∧(l.take k).all (z8o c)=true∧z8o c (l.getD k default)=false:=by
  obtain ⟨r,h1,h2⟩:=zarx (c:=c) hl
  rw[zbu,zd6]
  cases r with
  | inl y =>
   obtain ⟨k,rfl,h3,h4,h5⟩:=h2
   exact .inr ⟨k,by rw[Tr.ri h1,Tr.rl],h3,h4,h5⟩
  | inr y =>
   obtain ⟨rfl,h3⟩:=h2
   exact .inl ⟨by rw[Tr.rj h1,Tr.rl],h3⟩
 rw[zd7,zeq]
 rcases hi with ⟨h1,h2⟩ | ⟨k,h1,h2,h3,h4⟩
 ·rw[Tr.rb h1,Tr.rt (by rfl),Tr.rl,List.filter_eq_self.2 (fun a h=>List.all_eq_true.1 h2 a h)]
 ·obtain ⟨r,k1,n,k2,k3,k4,k5,k6⟩:=zany hl h2 h3 h4
  have hcl:zajx r.2.2 r.1=some (r.2.2.take n++List.replicate (r.2.2.length - n) default):=by
   unfold zajx
   rw[k2,if_pos (by omega),yy4]
  have hlt:(r.2.2.take n).length=n:=by rw[List.length_take];omega
  rw[Tr.rb h1,Tr.rf (by simp),zl (by omega),Tr.rb k1,Tr.rb hcl,k2,Tr.rg ⟨by omega,by rw[zef,yy6,hlt];omega⟩,Tr.rl,k3,yy4,List.drop_zero,Nat.sub_zero,List.take_left' hlt,k6]
theorem zajn {p:za} (hf:FitPr 140737488351232 p) {c:Int}:zel p c=some (ztj p c):=by
 rw[zel,zpv,Tr.rb (znb hf)]
 unfold ztj
 rw[Tr.rg (by
  intro h0
  simp only[Bool.or_eq_false_iff,yy8] at h0
  exact ⟨by omega,trivial⟩)]
 by_cases h:zau p=true∧(0≤c∧c < 2)∧p.Links.On.get c=true
 ·obtain ⟨h1,h2,h3⟩:=h
  rw[if_pos ⟨h1,h2,h3⟩,Tr.rf (by rw[h1,h3];simp;omega),Tr.rg h2,Tr.rg h2,Tr.rg h2,Tr.rg h2,Tr.rg h2,Tr.rb (z9v hf.waits),Tr.rb (zag9 hf.queue),Tr.rb (zary hf.queue),Tr.rl]
  rfl
 ·rw[if_neg h,Tr.rt (by
   simp only[Bool.or_eq_true,decide_eq_true_eq,Bool.not_eq_true']
   cases h1:zau p with
   | false=>exact .inl (.inl (.inl rfl))
   | true =>
    by_cases h2:0≤c∧c < 2
    ·exact .inr (Bool.eq_false_iff.2 (fun h3=>h ⟨h1,h2,h3⟩))
    ·exact .inl (by omega)),Tr.rl]
theorem zaft {p z:za} {c:Int} (hl:p.Queue.length*88≤140737488351232):zsb c p.Queue.length 0 z p []=some (z,p,p.Queue.filter (z8o c)):=by
 rw[zsb]
 have:=zb7 (F:=fun s:Int×Int×Int×za×za×(List Asked)=>(zkg s.1 s.2.1 s.2.2.1 s.2.2.2.1 s.2.2.2.2.1 s.2.2.2.2.2).run) p.Queue.length (fun i t=>(c,(p.Queue.length:Int),(i:Int),z,p,t)) (fun i t=>t=(p.Queue.take i).filter (z8o c)) (fun _ _=>(z,p,p.Queue.filter (z8o c))) ?_ ?_ 0 [] (Nat.zero_le _) (by simp)
 ·exact this
 ·rintro t rfl
  simp only[zkg];rw[Tr.rf (by simp),Tr.rl,List.take_length]
 ·rintro i t hi ht
  have hlen:t.length≤i:=by rw[ht];exact Nat.le_trans (List.length_filter_le _ _) (by rw[List.length_take];omega)
  simp only[zkg]
  rw[yy4,Tr.rt (by simpa using hi),Tr.rg ⟨by omega,by rw[zef];omega⟩]
  cases hq:z8o c (p.Queue.getD i default) with
  | true =>
   refine .inl ⟨t++[p.Queue.getD i default],by rw[Tr.rt (by exact hq),Tr.rg (by simp only[zef,yy5];omega),Tr.rl,zl (by omega)],?_,by trivial⟩
   rw[zld hi default,List.filter_append,List.filter_cons,hq,ht];rfl
  | false =>
   refine .inl ⟨t,by rw[Tr.rf (by exact hq),Tr.rl,zl (by omega)],?_,by trivial⟩
   rw[zld hi default,List.filter_append,List.filter_cons,hq,ht];simp
theorem zabh {p:za} (hf:FitPr 140737488351232 p) {c:Int}:zib p c=some (ztj p c):=by
 have hgd:=zgp hf
 rw[zib,z2r,hgd]
 simp only[Option.isSome_some,yy2]
 unfold ztj
 rw[Tr.rg (fun _=>⟨trivial,trivial⟩),Tr.rg (by
  intro h0
  simp only[Bool.or_eq_false_iff,yy8] at h0
  exact ⟨by omega,trivial⟩)]
 by_cases h:zau p=true∧(0≤c∧c < 2)∧p.Links.On.get c=true
 ·obtain ⟨h1,h2,h3⟩:=h
  rw[if_pos ⟨h1,h2,h3⟩,Tr.rf (by rw[h1,h3];simp;omega),Tr.rb (zqc hf),Tr.rg h2,Tr.rb (z8d hf.waits)]
  rw[Tr.rb (v:=(default,{ p with Stake:=zmn p.Stake c 1099511627776,Links:=zwl p.Links c },p.Queue.filter (z8o c))) (by exact zaft (p:={ p with Stake:=zmn p.Stake c 1099511627776,Links:=zwl p.Links c }) hf.queue),Tr.rl]
  rfl
 ·rw[if_neg h,Tr.rt (by
   simp only[Bool.or_eq_true,decide_eq_true_eq,Bool.not_eq_true']
   cases h1:zau p with
   | false=>exact .inl (.inr rfl)
   | true =>
    by_cases h2:0≤c∧c < 2
    ·exact .inr (Bool.eq_false_iff.2 (fun h3=>h ⟨h1,h2,h3⟩))
    ·exact .inl (.inl (by omega))),Tr.rl]
theorem zalu {α:Type} {P:α→Prop} {a:A2 α} (h0:P (a.get 0)) (h1:P (a.get 1)) (c:Int):P (a.get c):=by
 by_cases h:c=0
 ·rw[h];exact h0
 ·have:a.get c=a.get 1:=by unfold A2.get;rw[if_neg h];rfl
  rw[this];exact h1
theorem zaej {m:Int}:∀ {l:List Power} {p:Int},(∀ q,q∈l→p < q.V∧q.V≤5∧m≤q.N∧q.N≤1125899906842624)→l.Pairwise (fun a b=>a.V < b.V)→zv m p l=true
 | [],p,_,_=>rfl
 | q::l,p,h1,h2=>by
  have hq:=h1 q (List.mem_cons_self ..)
  rw[List.pairwise_cons] at h2
  simp only[zv,yy7,decide_eq_true_eq]
  exact ⟨⟨⟨⟨hq.1,hq.2.1⟩,hq.2.2.1⟩,hq.2.2.2⟩,zaej (fun x hx=>⟨h2.1 x hx,(h1 x (List.mem_cons_of_mem _ hx)).2⟩) h2.2⟩
theorem zbh0 {s:Stake} (hg:GoodS s):zv 1 (-1) (setS s)=true:=by
 refine zaej (fun q hq=>?_) (z28 _)
 obtain ⟨hv,_,hn,h1⟩:=za0q hg hq
 have:=(hg.at hv).1.1
 unfold inA at this
 omega
def GoodX (p:za):Prop:=GoodS p.Stake∧(0≤p.Height∧0≤p.Time∧p.Time≤1099511627776)∧zv 1 (-1) p.Set=true∧okLk p 0=true∧okLk p 1=true∧p.Queue.all (zvl p)=true
theorem goodPr_iff {p:za}:zau p=true↔GoodX p∧p.Height < 1099511627776:=by
 constructor
 ·intro h
  obtain ⟨a,⟨b1,b2,b3,b4⟩,c,d,e,f⟩:=zet h
  exact ⟨⟨a,⟨b1,b3,b4⟩,c,d,e,f⟩,b2⟩
 ·rintro ⟨⟨a,⟨b1,b3,b4⟩,c,d,e,f⟩,b2⟩
  unfold zau
  simp only[yy7,decide_eq_true_eq]
  exact ⟨⟨⟨⟨⟨a,b1,b2,b3,b4⟩,c⟩,d⟩,e⟩,f⟩
structure LkX (p:za) (c:Int):Prop where
 on:¬ (p.Links.On.get c=true∧p.Links.Gone.get c=true)
 b0:0≤p.Links.Base.get c
 b1:p.Links.Base.get c≤p.Height
 told:zv 1 (-1) (p.Links.Told.get c)=true
 line:zeg (zhm p.Links c)
 done:zad (-1) (p.Links.Done.get c)=true
theorem okLk_iff {p:za} {c:Int}:okLk p c=true↔LkX p c:=by
 unfold okLk
 simp only[yy7,decide_eq_true_eq]
 constructor
 ·rintro ⟨⟨⟨⟨⟨h1,h2⟩,h3⟩,h4⟩,h5⟩,h6⟩
  exact ⟨fun ⟨x,y⟩=>(by rw[x,y] at h1;cases h1),h2,h3,h4,h5,h6⟩
 ·rintro ⟨h1,h2,h3,h4,h5,h6⟩
  refine ⟨⟨⟨⟨⟨?_,h2⟩,h3⟩,h4⟩,h5⟩,h6⟩
  cases x:p.Links.On.get c
  ·rfl
  ·cases y:p.Links.Gone.get c
   ·rfl
   ·exact absurd ⟨x,y⟩ h1
theorem GoodX.lk {p:za} (h:GoodX p) {c:Int} (hc:0≤c∧c < 2):LkX p c:=by
 rcases (show c=0∨c=1 by omega) with rfl | rfl
 ·exact okLk_iff.1 h.2.2.2.1
 ·exact okLk_iff.1 h.2.2.2.2.1
theorem ask_iff {p:za} {a:Asked}:zvl p a=true↔(0≤a.C∧a.C < 2)∧p.Links.On.get a.C=true∧zgt a.P=0∧a.P.Kind≠1:=by
 unfold zvl
 simp only[yy7,decide_eq_true_eq,beq_iff_eq,Bool.not_eq_true',beq_eq_false_iff_ne]
 constructor
 ·rintro ⟨⟨⟨⟨c0,c1⟩,c2⟩,c3⟩,c4⟩;exact ⟨⟨c0,c1⟩,c2,c3,c4⟩
 ·rintro ⟨⟨c0,c1⟩,c2,c3,c4⟩;exact ⟨⟨⟨⟨c0,c1⟩,c2⟩,c3⟩,c4⟩
theorem GoodX.ask {p:za} (h:GoodX p) {a:Asked} (ha:a∈p.Queue):(0≤a.C∧a.C < 2)∧p.Links.On.get a.C=true∧zgt a.P=0∧a.P.Kind≠1:=ask_iff.1 (List.all_eq_true.1 h.2.2.2.2.2 a ha)
theorem fitX {p:za} (h:GoodX p) {R:Nat} (hR:100000≤R) (hq:p.Queue.length*88≤R):FitPr R p:=by
 have l0:=h.lk (c:=0) (by omega)
 have l1:=h.lk (c:=1) (by omega)
 have lp:∀ {l:List Power},zv 1 (-1) l=true→l.length*16≤R:=fun hl=>by have:=zlb hl (by omega);omega
 have ld:∀ {l:List Int},zad (-1) l=true→l.length*8≤R:=fun hl=>by have:=z3t hl;omega
 have lS:∀ {c:Int},LkX p c→(p.Links.Said.get c).length≤400∧(p.Links.Due.get c).length≤400:=by
  intro c l
  have e1:(p.Links.Said.get c).length=(p.Links.Due.get c).length:=l.line.1
  have e2:(p.Links.Said.get c).length≤400:=l.line.2.1
  omega
 have s0:=lS l0
 have s1:=lS l1
 have hw:p.Stake.Waits.length≤60:=h.1.2.1.2.2
 have t0:=lp l0.told;have t1:=lp l1.told;have d0:=ld l0.done;have d1:=ld l1.done
 have hset:=lp h.2.2.1
 have hask:=fun a ha=>zaeh (h.ask (a:=a) ha).2.2.1
 have hw':p.Stake.Waits.length*64≤R:=by omega
 have a0:(p.Links.Said.get 0).length*16≤R:=by omega
 have a1:(p.Links.Said.get 1).length*16≤R:=by omega
 have b0:(p.Links.Due.get 0).length*8≤R:=by omega
 have b1:(p.Links.Due.get 1).length*8≤R:=by omega
 have hps:∀ a,a∈p.Queue→a.P.Set.length*16≤R∧a.P.Done.length*8≤R:=fun a ha=>by have:=hask a ha;omega
 exact ⟨hw',hset,fun c=>zalu (P:=fun l:List Power=>l.length*16≤R) (a:=p.Links.Told) t0 t1 c,fun c=>zalu (P:=fun l:List Int=>l.length*8≤R) (a:=p.Links.Done) d0 d1 c,
  fun c=>zalu (P:=fun l:List ByteArray=>l.length*16≤R) (a:=p.Links.Said) a0 a1 c,fun c=>zalu (P:=fun l:List Int=>l.length*8≤R) (a:=p.Links.Due) b0 b1 c,hq,hps⟩
theorem zarz {l:zbs} {s:ByteArray} {u:Int} (h:zeg l) (hu:0≤u):zeg (sayL l s u).1:=by
 unfold sayL
 rw[if_neg (by rintro (k | k);exact k h;omega)]
 split
 ·exact h
 ·split
  ·exact h
  ·rename_i h4
   obtain ⟨g1,g2,g3,g4,g5⟩:=h
   refine ⟨by simp[g1],by simp only[yy6,yy5];omega,g3,by simp only[yy6,yy5];omega,?_⟩
   simp only[List.any_append,g5,Bool.false_or,List.any_cons,List.any_nil,Bool.or_false,yy8]
   omega
theorem zab3 {p:za} (hg:zau p=true) (now:Int):∃ S D M,(zeo p now).1=upP (z3b p now) S D M∧GoodS S∧(∀ c:Int,zad (-1) (D.get c)=true)∧(zeo p now).2.2.length≤p.Queue.length∧∀ b,b∈(zeo p now).2.2→b∈p.Queue:=by
 obtain ⟨⟨S,D,M,e,hS,d0,d1⟩,hq2,hq3,hq4⟩:=z8n (now:=now) hg
 exact ⟨S,D,M,e,hS,zalu (P:=fun l=>zad (-1) l=true) d0 d1,hq2,hq4⟩
theorem zalv {p:za} (hg:zau p=true) {now:Int} (hn:p.Time≤now∧now≤1099511627776):GoodX (zrl p now):=by
 obtain ⟨S,D,M,e,hS,hd,hl,hm⟩:=zab3 hg now
 have hx:=(goodPr_iff.1 hg).1
 have hp:=zajf hS now
 have hn0:=hx.2.1
 unfold zrl
 rw[e]
 refine ⟨hp,⟨by show 0≤p.Height+1;omega,by show 0≤now;omega,hn.2⟩,zbh0 hp,okLk_iff.2 ?_,okLk_iff.2 ?_,List.all_eq_true.2 fun b hb=>?_⟩
 ·obtain ⟨a1,a2,a3,a4,a5,a6⟩:=hx.lk (c:=0) (by omega)
  exact ⟨a1,a2,by show p.Links.Base.get 0≤p.Height+1;omega,a4,a5,hd 0⟩
 ·obtain ⟨a1,a2,a3,a4,a5,a6⟩:=hx.lk (c:=1) (by omega)
  exact ⟨a1,a2,by show p.Links.Base.get 1≤p.Height+1;omega,a4,a5,hd 1⟩
 ·exact ask_iff.2 (hx.ask (hm b hb))
theorem z8q (p:za) (c now:Int):(ze7 p c now).Height=p.Height∧(ze7 p c now).Time=p.Time∧(ze7 p c now).Stake=p.Stake∧(ze7 p c now).Set=p.Set∧(ze7 p c now).Meter=p.Meter∧(ze7 p c now).Queue=p.Queue ∧
  (ze7 p c now).Links.On=p.Links.On∧(ze7 p c now).Links.Gone=p.Links.Gone∧(ze7 p c now).Links.Base=p.Links.Base∧(ze7 p c now).Links.SHeight=p.Links.SHeight∧(ze7 p c now).Links.STime=p.Links.STime∧(ze7 p c now).Links.SSaid=p.Links.SSaid∧(ze7 p c now).Links.SGot=p.Links.SGot:=by
 unfold ze7
 repeat' split
 all_goals exact ⟨rfl,rfl,rfl,rfl,rfl,rfl,rfl,rfl,rfl,rfl,rfl,rfl,rfl⟩
theorem zahb {p:za} {c j now:Int} (hc:0≤c∧c < 2) (hj:0≤j∧j < 2) (h:j≠c):(ze7 p c now).Links.Told.get j=p.Links.Told.get j∧(ze7 p c now).Links.Fresh.get j=p.Links.Fresh.get j∧(ze7 p c now).Links.Done.get j=p.Links.Done.get j∧zhm (ze7 p c now).Links j=zhm p.Links j:=by
 unfold ze7
 repeat' split
 ·exact ⟨rfl,rfl,rfl,rfl⟩
 ·exact ⟨rfl,rfl,rfl,rfl⟩
 ·exact ⟨rfl,rfl,rfl,rfl⟩
 ·unfold za07 zhm
  simp only[za6 _ _ hc hj,if_neg h]
  exact ⟨trivial,trivial,trivial,trivial⟩
theorem zbh1 {p:za} {c:Int} (hs:zv 1 (-1) p.Set=true):zv 0 (-1) (dOf p c)=true:=by
  have hb:∀ v:Nat,0≤fP p.Set v∧fP p.Set v≤1125899906842624:=by
    intro v
    unfold fP
    have hm:=zp6 (by omega) hs (by omega)
    revert hm
    generalize p.Set=l
    intro hm
    induction l with
    | nil=>simp[zc8]
    | cons q l ih =>
      simp only[zc8]
      split
      · have:=hm q (List.mem_cons_self ..);omega
      · exact ih (fun q hq=>hm q (List.mem_cons_of_mem _ hq))
  unfold dOf
  generalize fP p.Set=g at hb
  generalize fP (p.Links.Told.get c)=f
  have hm:∀ q,q∈z00 f g→∃ v:Nat,v < 6∧q=⟨v,g v⟩:=by
    intro q hq
    rw[zadt] at hq
    simp only[List.mem_append,List.not_mem_nil,or_false] at hq
    have key:∀ v:Nat,v < 6→q∈twoP (v:Int) (g v) (f v)→∃ v:Nat,v < 6∧q=⟨v,g v⟩:=by
      intro v hv h
      unfold twoP at h
      split at h
      · exact ⟨v,hv,List.mem_singleton.1 h⟩
      · cases h
    rcases hq with h | h | h | h | h | h
    · exact key 0 (by omega) h
    · exact key 1 (by omega) h
    · exact key 2 (by omega) h
    · exact key 3 (by omega) h
    · exact key 4 (by omega) h
    · exact key 5 (by omega) h
  refine zaej (fun q hq=>?_) ?_
  · obtain ⟨v,hv,rfl⟩:=hm q hq
    have:=hb v
    refine ⟨by show (-1:Int) < (v:Int);omega,by show (v:Int)≤5;omega,this.1,this.2⟩
  · rw[zadt]
    have one:∀ (v:Int) (x y:Int),(twoP v x y).Pairwise (fun a b=>a.V < b.V):=by
      intro v x y;unfold twoP;split
      · exact List.pairwise_singleton ..
      · exact .nil
    have mem:∀ {v x y:Int} {q:Power},q∈twoP v x y→q.V=v:=by
      intro v x y q h;unfold twoP at h;split at h
      · rw[List.mem_singleton.1 h]
      · cases h
    refine List.pairwise_append.2 ⟨one _ _ _,List.pairwise_append.2 ⟨one _ _ _,List.pairwise_append.2 ⟨one _ _ _,List.pairwise_append.2 ⟨one _ _ _,List.pairwise_append.2 ⟨one _ _ _,List.pairwise_append.2 ⟨one _ _ _,.nil,?_⟩,?_⟩,?_⟩,?_⟩,?_⟩,?_⟩
    all_goals
      intro a ha b hb
      have k:=mem ha
      first
      | (exfalso;cases hb;done)
      | (simp only[List.mem_append,List.not_mem_nil,or_false] at hb
         first
         | (rcases hb with h | h | h | h | h<;>have:=mem h<;>omega)
         | (rcases hb with h | h | h | h<;>have:=mem h<;>omega)
         | (rcases hb with h | h | h<;>have:=mem h<;>omega)
         | (rcases hb with h | h<;>have:=mem h<;>omega)
         | (have:=mem hb;omega))
theorem zava {p:za} {c:Int} (hs:zv 1 (-1) p.Set=true) (hd:zad (-1) (p.Links.Done.get c)=true) (hH:1≤p.Height∧p.Height≤1099511627776):zgt (pkOf p c)=0:=by
 unfold zgt pkOf
 simp only[]
 rw[if_neg (by omega),if_neg (by omega),if_neg (by omega),zbh1 hs,hd]
 rfl
theorem za08 {p:za} {c now:Int} (h:GoodX p) (hc:0≤c∧c < 2) (hH:1≤p.Height∧p.Height≤1099511627776) (hn:0≤now) :
  (ze7 p c now=p∧(z8m p c∨p.Links.Closed.get c=true∨400≤(p.Links.Said.get c).length)) ∨
  (¬ z8m p c∧p.Links.Closed.get c=false∧(p.Links.Said.get c).length < 400∧(ze7 p c now).Links={ p.Links with Told:=p.Links.Told.set c p.Set,Fresh:=p.Links.Fresh.set c false,Done:=p.Links.Done.set c [],Said:=p.Links.Said.set c (p.Links.Said.get c++[txt (z6e (pkOf p c))]),Due:=p.Links.Due.set c (p.Links.Due.get c++[now+40]) }):=by
 have lk:=h.lk hc
 have hg:=zava (c:=c) h.2.2.1 lk.done hH
 unfold ze7
 by_cases hq:z8m p c
 ·rw[if_pos hq];exact .inl ⟨rfl,.inl hq⟩
 ·rw[if_neg hq,zrf hg,if_neg (by simp)]
  have hu:¬ (¬ zeg (zhm p.Links c)∨now+40 < 0):=by rintro (k | k);exact k lk.line;omega
  cases hcl:p.Links.Closed.get c with
  | true =>
   have:zsi p c now=(zhm p.Links c,11):=by unfold zsi sayL;rw[if_neg hu,if_pos hcl]
   rw[this,if_pos (by simp)];exact .inl ⟨rfl,.inr (.inl rfl)⟩
  | false =>
   by_cases h4:400≤(p.Links.Said.get c).length
   ·have:zsi p c now=(zhm p.Links c,6):=by unfold zsi sayL;rw[if_neg hu,if_neg (by simp[hcl]),if_pos h4]
    rw[this,if_pos (by simp)];exact .inl ⟨rfl,.inr (.inr h4)⟩
   ·have e:zsi p c now=(⟨p.Links.Said.get c++[txt (z6e (pkOf p c))],p.Links.Due.get c++[now+40],p.Links.Got.get c,p.Links.Closed.get c⟩,0):=by
     unfold zsi sayL;rw[if_neg hu,if_neg (by simp[hcl]),if_neg h4,zrf hg]
    rw[if_neg (by rw[e];simp)]
    refine .inr ⟨hq,rfl,by omega,?_⟩
    unfold za07
    rw[e]
    simp only[zqd _ hc]
theorem zaek {p:za} {c now:Int} (h:GoodX p) (hc:0≤c∧c < 2) (hn:0≤now):GoodX (ze7 p c now):=by
 unfold ze7
 repeat' split
 ·exact h
 ·exact h
 ·exact h
 ·have hlk:∀ j:Int,0≤j∧j < 2→LkX (za07 p c now) j:=by
   intro j hj
   obtain ⟨a1,a2,a3,a4,a5,a6⟩:=h.lk hj
   by_cases e:j=c
   ·subst e
    refine ⟨a1,a2,a3,?_,?_,?_⟩
    ·show zv 1 (-1) ((p.Links.Told.set j p.Set).get j)=true
     rw[za6 _ _ hj hj,if_pos rfl];exact h.2.2.1
    ·show zeg ⟨(p.Links.Said.set j (zsi p j now).1.Said).get j,(p.Links.Due.set j (zsi p j now).1.Due).get j,(p.Links.Got.set j (zsi p j now).1.Got).get j,(p.Links.Closed.set j (zsi p j now).1.Closed).get j⟩
     simp only[za6 _ _ hj hj,if_pos]
     refine zarz a5 ?_
     have:0≤now:=hn
     omega
    ·show zad (-1) ((p.Links.Done.set j []).get j)=true
     rw[za6 _ _ hj hj,if_pos rfl];rfl
   ·refine ⟨a1,a2,a3,?_,?_,?_⟩
    ·show zv 1 (-1) ((p.Links.Told.set c p.Set).get j)=true
     rw[za6 _ _ hc hj,if_neg e];exact a4
    ·show zeg ⟨(p.Links.Said.set c (zsi p c now).1.Said).get j,(p.Links.Due.set c (zsi p c now).1.Due).get j,(p.Links.Got.set c (zsi p c now).1.Got).get j,(p.Links.Closed.set c (zsi p c now).1.Closed).get j⟩
     simp only[za6 _ _ hc hj,if_neg e]
     exact a5
    ·show zad (-1) ((p.Links.Done.set c []).get j)=true
     rw[za6 _ _ hc hj,if_neg e];exact a6
  exact ⟨h.1,h.2.1,h.2.2.1,okLk_iff.2 (hlk 0 (by omega)),okLk_iff.2 (hlk 1 (by omega)),h.2.2.2.2.2⟩
theorem za09 {p:za} (hg:zau p=true) {now:Int} (hn:p.Time≤now∧now≤1099511627776):GoodX (zpb p now).1:=by
 unfold zpb
 rw[if_pos ⟨hg,hn⟩]
 have h0:=(goodPr_iff.1 hg).1.2.1
 exact zaek (zaek (zalv hg hn) (by omega) (by omega)) (by omega) (by omega)
theorem zalw {p:za} (hg:zau p=true) {c:Int} (hc:0≤c∧c < 2):zau (z8p p c)=true:=by
 obtain ⟨hx,hH⟩:=goodPr_iff.1 hg
 have hlk:∀ j:Int,0≤j∧j < 2→LkX (z8p p c) j:=by
  intro j hj
  obtain ⟨a1,a2,a3,a4,a5,a6⟩:=hx.lk hj
  refine ⟨?_,a2,a3,a4,a5,?_⟩
  ·show ¬ ((p.Links.On.set c false).get j=true∧(p.Links.Gone.set c true).get j=true)
   rw[za6 _ _ hc hj,za6 _ _ hc hj]
   by_cases e:j=c
   ·rw[if_pos e];simp
   ·rw[if_neg e,if_neg e];exact a1
  ·show zad (-1) ((p.Links.Done.set c []).get j)=true
   rw[za6 _ _ hc hj]
   by_cases e:j=c
   ·rw[if_pos e];rfl
   ·rw[if_neg e];exact a6
 refine goodPr_iff.2 ⟨⟨zaau hx.1,hx.2.1,hx.2.2.1,okLk_iff.2 (hlk 0 (by omega)),okLk_iff.2 (hlk 1 (by omega)),List.all_eq_true.2 fun b hb=>ask_iff.2 ?_⟩,hH⟩
 obtain ⟨h1,h2⟩:=List.mem_filter.1 hb
 obtain ⟨q1,q2,q3,q4⟩:=hx.ask h1
 refine ⟨q1,?_,q3,q4⟩
 show (p.Links.On.set c false).get b.C=true
 rw[za6 _ _ hc q1,if_neg (by simpa[z8o] using h2)]
 exact q2
theorem zavb {p:za} {now:Int} (h:zau p=true∧p.Time≤now∧now≤1099511627776):(zpb p now).2.2=0:=by unfold zpb;rw[if_pos h]
theorem zbh2 {p:za} {now:Int} (h:¬ (zau p=true∧p.Time≤now∧now≤1099511627776)):zpb p now=(p,[],2):=by unfold zpb;rw[if_neg h]
theorem za1a {p:za} {now:Int} (h:zau p=true∧p.Time≤now∧now≤1099511627776) :
  (zpb p now).1.Height=p.Height+1∧(zpb p now).1.Time=now∧(zpb p now).1.Stake=(payS (zeo p now).1.Stake now).1∧(zpb p now).1.Set=setS (payS (zeo p now).1.Stake now).1∧(zpb p now).1.Queue=(zeo p now).2.2 ∧
  (zpb p now).1.Links.On=p.Links.On∧(zpb p now).1.Links.Gone=p.Links.Gone∧(zpb p now).1.Links.Base=p.Links.Base:=by
 unfold zpb
 rw[if_pos h]
 obtain ⟨S,D,M,e,-⟩:=zab3 h.1 now
 obtain ⟨a1,a2,a3,a4,a5,a6,a7,a8,a9,-⟩:=z8q (ze7 (zrl p now) 0 now) 1 now
 obtain ⟨b1,b2,b3,b4,b5,b6,b7,b8,b9,-⟩:=z8q (zrl p now) 0 now
 simp only[a1,a2,a3,a4,a6,a7,a8,a9,b1,b2,b3,b4,b6,b7,b8,b9]
 refine ⟨?_,?_,rfl,rfl,rfl,?_,?_,?_⟩
 all_goals
  unfold zrl
  rw[e]
  rfl
def zbh3 (on fresh:Bool) (told:List Power) (D:List Int) (l:zbs) (H now:Int) (set told':List Power) (D':List Int) (fresh':Bool) (l':zbs):Prop :=
 (told'=told∧D'=D∧fresh'=fresh∧l'=l∧(on=false∨(z00 (fP told) (fP set)=[]∧D=[]∧fresh=false)∨l.Closed=true∨400≤l.Said.length)) ∨
 (told'=set∧D'=[]∧fresh'=false∧on=true∧l.Closed=false∧l.Said.length < 400∧¬ (z00 (fP told) (fP set)=[]∧D=[]∧fresh=false)∧zgt ⟨1,H,0,0,z00 (fP told) (fP set),D⟩=0 ∧
  l'=⟨l.Said++[txt (z6e ⟨1,H,0,0,z00 (fP told) (fP set),D⟩)],l.Due++[now+40],l.Got,l.Closed⟩)
theorem zalx {p:za} {c now:Int} (h:GoodX p) (hc:0≤c∧c < 2) (hH:1≤p.Height∧p.Height≤1099511627776) (hn:0≤now) :
  zbh3 (p.Links.On.get c) (p.Links.Fresh.get c) (p.Links.Told.get c) (p.Links.Done.get c) (zhm p.Links c) p.Height now p.Set ((ze7 p c now).Links.Told.get c) ((ze7 p c now).Links.Done.get c) ((ze7 p c now).Links.Fresh.get c) (zhm (ze7 p c now).Links c):=by
 rcases za08 h hc hH hn with ⟨e,h1⟩ | ⟨h1,h2,h3,e⟩
 ·rw[e]
  refine .inl ⟨rfl,rfl,rfl,rfl,?_⟩
  rcases h1 with (h1 | h1) | h1 | h1
  ·exact .inl h1
  ·exact .inr (.inl h1)
  ·exact .inr (.inr (.inl h1))
  ·exact .inr (.inr (.inr h1))
 ·rw[e]
  have on:p.Links.On.get c=true:=by
   cases o:p.Links.On.get c with
   | true=>rfl
   | false=>exact absurd (.inl o) h1
  refine .inr ⟨?_,?_,?_,on,h2,h3,fun k=>h1 (.inr k),zava h.2.2.1 (h.lk hc).done hH,?_⟩
  ·simp only[za6 _ _ hc hc,if_pos]
  ·simp only[za6 _ _ hc hc,if_pos]
  ·simp only[za6 _ _ hc hc,if_pos]
  ·unfold zhm
   simp only[za6 _ _ hc hc,if_pos]
   rfl
theorem zavc {p:za} (hg:zau p=true) (now:Int):(zrl p now).Height=p.Height+1∧(zrl p now).Links.On=p.Links.On∧(zrl p now).Links.Fresh=p.Links.Fresh∧(zrl p now).Links.Told=p.Links.Told∧(∀ c,zhm (zrl p now).Links c=zhm p.Links c):=by
 obtain ⟨S,D,M,e,-⟩:=zab3 hg now
 unfold zrl
 rw[e]
 exact ⟨rfl,rfl,rfl,rfl,fun _=>rfl⟩
theorem za1b {p:za} {now:Int} (h:zau p=true∧p.Time≤now∧now≤1099511627776) {c:Int} (hc:0≤c∧c < 2) :
  ∃ D,D=(zrl p now).Links.Done.get c∧zbh3 (p.Links.On.get c) (p.Links.Fresh.get c) (p.Links.Told.get c) D (zhm p.Links c) (zpb p now).1.Height now (zpb p now).1.Set ((zpb p now).1.Links.Told.get c) ((zpb p now).1.Links.Done.get c) ((zpb p now).1.Links.Fresh.get c) (zhm (zpb p now).1.Links c):=by
 obtain ⟨hx,hH⟩:=goodPr_iff.1 h.1
 have hn:0≤now:=by have:=hx.2.1.2.1;omega
 have h0:=hx.2.1.1
 have g0:=zalv h.1 h.2
 have g1:=zaek (c:=0) g0 (by omega) hn
 obtain ⟨p1,p2,p3,p4,p5⟩:=zavc h.1 now
 obtain ⟨a1,a2,a3,a4,a5,a6,a7,a8,a9,-⟩:=z8q (ze7 (zrl p now) 0 now) 1 now
 obtain ⟨b1,b2,b3,b4,b5,b6,b7,b8,b9,-⟩:=z8q (zrl p now) 0 now
 refine ⟨_,rfl,?_⟩
 unfold zpb
 rw[if_pos h]
 simp only[]
 rw[a1,a4,b1,b4,← p2,← p3,← p4,← p5 c]
 rcases (show c=0∨c=1 by omega) with rfl | rfl
 ·obtain ⟨t1,t2,t3,t4⟩:=zahb (p:=ze7 (zrl p now) 0 now) (c:=1) (j:=0) (now:=now) (by omega) (by omega) (by omega)
  rw[t1,t2,t3,t4]
  exact zalx g0 hc (by omega) hn
 ·obtain ⟨t1,t2,t3,t4⟩:=zahb (p:=zrl p now) (c:=0) (j:=1) (now:=now) (by omega) (by omega) (by omega)
  have:=zalx (c:=1) (now:=now) g1 hc (by rw[b1];omega) hn
  rw[b7,t1,t2,t3,t4,b1,b4] at this
  exact this
theorem zahc {C:zev} {i j:Int} (hi:0≤i∧i < 2) (hj:0≤j∧j < 2) (c:zb):zc (zqh C i c) j=if j=i then c else zc C j:=by
 unfold zc zqh
 simp only[za6 _ _ hi hj]
 by_cases e:j=i
 ·simp only[if_pos e]
 ·simp only[if_neg e]
theorem zve {C:zev} {i:Int} (hi:0≤i∧i < 2) (c:zb):zc (zqh C i c) i=c:=by rw[zahc hi hi,if_pos rfl]
theorem zrm {C:zev} {i j:Int} (hi:0≤i∧i < 2) (hj:0≤j∧j < 2) (h:j≠i) (c:zb):zc (zqh C i c) j=zc C j:=by rw[zahc hi hj,if_neg h]
theorem z3c {C:zev} {i:Int} (hi:0≤i∧i < 2):zqh C i (zc C i)=C:=by
 unfold zc zqh
 simp only[zqd _ hi]
def zael (L:Links) (i:Int) (l:zbs):Links:={ L with Said:=L.Said.set i l.Said,Due:=L.Due.set i l.Due,Got:=L.Got.set i l.Got,Closed:=L.Closed.set i l.Closed }
def zanz (L:Links) (i:Int) (h:Head):Links:={ L with SHeight:=L.SHeight.set i h.Height,STime:=L.STime.set i h.Time,SSaid:=L.SSaid.set i h.Said,SGot:=L.SGot.set i h.Got }
theorem z92 {L:Links} {i j:Int} (hi:0≤i∧i < 2) (hj:0≤j∧j < 2) (l:zbs):zx (zael L i l) j=if j=i then { zx L j with Out:=l } else zx L j:=by
 unfold zx zael
 simp only[za6 _ _ hi hj]
 by_cases e:j=i
 ·simp only[if_pos e]
 ·simp only[if_neg e]
theorem z6l (L:Links) (i:Int):zhm L i=(zx L i).Out:=rfl
def noW (w:Wld) (e:Int):Wld×Reply:=(w,⟨e,0⟩)
def zavd (h:z82) (p:za) (C:zev):z82 :=
 { h with PHeight:=⟨p.Height,p.Height⟩,PTime:=⟨p.Time,p.Time⟩,PSaid:=⟨((p.Links.Said.x0.length:Nat):Int),((p.Links.Said.x1.length:Nat):Int)⟩,PGot:=C.Got }
def zbh4 (h:z82) (i:Int) (c:zb) (got:Int):z82 :=
 { h with CHeight:=h.CHeight.set i c.Height,CTime:=h.CTime.set i c.Time,CSaid:=h.CSaid.set i ((c.Out.Said.length:Nat):Int),CGot:=h.CGot.set i got }
def zbh5 (h:z82) (i:Int):z82 :=
 ⟨h.PHeight.set i 0,h.PTime.set i 0,h.PSaid.set i 0,h.PGot.set i 0,h.CHeight.set i 0,h.CTime.set i 0,h.CSaid.set i 0,h.CGot.set i 0⟩
def za7z (h:z82) (i:Int):Head:=⟨h.PHeight.get i,h.PTime.get i,h.PSaid.get i,h.PGot.get i⟩
def zbo9 (h:z82) (i:Int):Head:=⟨h.CHeight.get i,h.CTime.get i,h.CSaid.get i,h.CGot.get i⟩
def z0o (w:Wld):Wld×Reply :=
 if (zpb w.p w.clock).2.2≠0 then noW w (zpb w.p w.clock).2.2
 else ({ w with p:=(zpb w.p w.clock).1,heads:=zavd w.heads (zpb w.p w.clock).1 w.consumers },⟨0,(((zpb w.p w.clock).2.1.length:Nat):Int)⟩)
def zaem (w:Wld) (i:Int):Wld×Reply :=
 if (zgq w.p i).2≠0 then noW w (zgq w.p i).2
 else ({ w with p:=(zgq w.p i).1,consumers:=zqh w.consumers i (zys (zgq w.p i).1.Set (zgq w.p i).1.Height w.clock),heads:=zbh5 w.heads i },⟨0,(zgq w.p i).1.Height⟩)
def z8r (w:Wld) (i:Int):Wld×Reply :=
 if (endC w.clock (zc w.consumers i)).2≠0 then noW w (endC w.clock (zc w.consumers i)).2
 else ({ w with consumers:=zqh w.consumers i (endC w.clock (zc w.consumers i)).1,heads:=zbh4 w.heads i (endC w.clock (zc w.consumers i)).1 (w.p.Links.Got.get i) },⟨0,0⟩)
def zaly (w:Wld) (i:Int) (back:Bool):Wld×Reply :=
 if back=true then ({ w with p:={ w.p with Links:=zanz w.p.Links i (zbo9 w.heads i) } },⟨0,0⟩)
 else ({ w with consumers:=zqh w.consumers i { zc w.consumers i with Seen:=za7z w.heads i } },⟨0,0⟩)
def zar0 (n:Nat):Packet:=⟨3,1,0,i64.wrap (1+(n:Int)),[],[]⟩
def zafu (l:zbs):ByteArray:=if l.Got < ((l.Said.length:Nat):Int) then l.Said.getD l.Got.toNat .empty else (⟨#[]⟩:ByteArray)
def zlu (l:zbs) (forged:Bool):ByteArray:=if forged=true then (zes (zar0 (zafu l).size)).1 else zafu l
def ze2 (w:Wld) (i:Int) (back:Bool):zbs:=if back=true then (zc w.consumers i).Out else (zx w.p.Links i).Out
def z8s (w:Wld) (i:Int) (back:Bool):Int:=if back=true then w.p.Links.SSaid.get i else w.consumers.SSaid.get i
def ztk (w:Wld) (d:Deed):zbs×Int:=zoy (ze2 w d.C d.Back) (i64.wrap ((ze2 w d.C d.Back).Got+1)) (zlu (ze2 w d.C d.Back) d.Forged) (z8s w d.C d.Back) w.clock
def ztl (w:Wld) (d:Deed):Wld×Reply :=
  if (ztk w d).2≠0 then noW w (ztk w d).2
  else if d.Back=true then
    (if (zss w.p d.C (zlu (ze2 w d.C d.Back) d.Forged).data.toList).2≠0 then noW w (zss w.p d.C (zlu (ze2 w d.C d.Back) d.Forged).data.toList).2
     else ({ w with p:=(zss w.p d.C (zlu (ze2 w d.C d.Back) d.Forged).data.toList).1,consumers:=zqh w.consumers d.C { zc w.consumers d.C with Out:=(ztk w d).1 } },⟨0,(ztk w d).1.Got⟩))
  else (if (z29 (zc w.consumers d.C) (zlu (ze2 w d.C d.Back) d.Forged).data.toList).2≠0 then noW w (z29 (zc w.consumers d.C) (zlu (ze2 w d.C d.Back) d.Forged).data.toList).2
     else ({ w with p:={ w.p with Links:=zael w.p.Links d.C (ztk w d).1 },consumers:=zqh w.consumers d.C (z29 (zc w.consumers d.C) (zlu (ze2 w d.C d.Back) d.Forged).data.toList).1 },⟨0,(ztk w d).1.Got⟩))
def zar1 (w:Wld) (d:Deed):zbs×Int:=if d.Back=true then zsg (zc w.consumers d.C).Out d.N (w.consumers.STime.get d.C) (w.consumers.SGot.get d.C) else zsg (zx w.p.Links d.C).Out d.N (w.p.Links.STime.get d.C) (w.p.Links.SGot.get d.C)
def z6m (w:Wld) (d:Deed):Wld×Reply :=
 if (zar1 w d).2≠0 then noW w (zar1 w d).2 else ({ w with p:=ztj w.p d.C,consumers:=zqh w.consumers d.C (z0m (zc w.consumers d.C)) },⟨0,0⟩)
def putW (w:Wld) (i:Int) (r:zb×Int):Wld×Reply:=if r.2≠0 then noW w r.2 else ({ w with consumers:=zqh w.consumers i r.1 },⟨0,0⟩)
def zii (w:Wld) (d:Deed):Wld×Reply :=
 if d.Kind < 4∨12 < d.Kind then noW w 3 else if d.C < 0∨2≤d.C then noW w 4 else if d.Kind≠4∧w.consumers.On.get d.C=false then noW w 4
 else if d.Kind=4 then zaem w d.C else if d.Kind=7 then z8r w d.C else if d.Kind=8 then zaly w d.C d.Back else if d.Kind=9 then ztl w d else if d.Kind=10 then z6m w d
 else if d.Kind=11 then putW w d.C (z6j (zc w.consumers d.C) d.V w.clock) else if d.Kind=12 then putW w d.C (zqb (zc w.consumers d.C) d.V d.N w.clock) else (w,⟨0,0⟩)
def z07 (w:Wld) (r:za×Int):Wld×Reply:=if r.2≠0 then noW w r.2 else ({ w with p:=r.1 },⟨0,0⟩)
def zajo (p:za) (v:Int):za×Int:=({ p with Stake:=(zda p.Stake v 1).1 },(zda p.Stake v 1).2)
def zave (w:Wld) (n:Int):Wld×Reply:=if n < 1∨1099511627736 - w.clock < n then noW w 2 else ({ w with clock:=w.clock+n },⟨0,w.clock+n⟩)
def actW (w:Wld) (d:Deed):Wld×Reply :=
 if d.Kind=1 then z07 w (zff w.p d.D d.V d.N) else if d.Kind=2 then z07 w (zcu w.p d.D d.V d.N w.clock) else if d.Kind=3 then z07 w (zajo w.p d.V) else if d.Kind=13 then z07 w (zyu w.p d.V d.N)
 else if d.Kind=5 then zave w d.N else if d.Kind=6 then z0o w else zii w d
def zeu (w:Wld):Wld:={ w with deeds:=w.deeds+1 }
def doW (w:Wld) (d:Deed):Wld×Reply:=if 600≤w.deeds then noW w 6 else actW (zeu w) d
def newW:Wld:=⟨0,zarn,default,default,0⟩
def Pk1 (s:ByteArray):Prop:=∃ q,zgt q=0∧q.Kind=1∧s=txt (z6e q)
def PkB (s:ByteArray):Prop:=∃ q,zgt q=0∧q.Kind≠1∧s=txt (z6e q)
structure ConsW (w:Wld) (i:Int):Prop where
 good:zkq (zc w.consumers i)=true
 height:(zc w.consumers i).Height≤w.deeds
 time:(zc w.consumers i).Time≤w.clock
 size:(((zc w.consumers i).Pending.length+(zc w.consumers i).Ripes.length:Nat):Int)≤w.deeds
 on:(zc w.consumers i).On=w.p.Links.On.get i
 gone:(zc w.consumers i).Gone=w.p.Links.Gone.get i
 told:∀ s,s∈(zx w.p.Links i).Out.Said→Pk1 s
 said:∀ s,s∈(zc w.consumers i).Out.Said→PkB s
 fresh:w.p.Links.On.get i=false→w.p.Links.Gone.get i=false→zc w.consumers i=default∧(zx w.p.Links i).Out.Said=[]
structure OkW (w:Wld):Prop where
 d0:0≤w.deeds
 d1:w.deeds≤600
 t0:0≤w.clock
 t1:w.clock≤1099511627736
 p:GoodX w.p
 ph:w.p.Height≤w.deeds
 pt:w.p.Time≤w.clock
 pq:((w.p.Queue.length:Nat):Int)≤w.deeds
 c:∀ i:Int,0≤i∧i < 2→ConsW w i
theorem OkW.pr {w:Wld} (h:OkW w):zau w.p=true:=goodPr_iff.2 ⟨h.p,by have:=h.ph;have:=h.d1;omega⟩
theorem OkW.fit {w:Wld} (h:OkW w):FitPr 140737488351232 w.p:=fitX h.p (by omega) (by have:=h.pq;have:=h.d1;omega)
theorem za70 {c:zb} (h:zkq c=true) {n:Nat} (hn:n≤1000000) (hs:c.Pending.length+c.Ripes.length≤n):FitC 140737488351232 c:=by
 obtain ⟨g1,g2,g3,g4,g5⟩:=zdb h
 have e1:=zlb g3 (by omega)
 have e2:c.Out.Said.length=c.Out.Due.length:=g2.1
 have e3:c.Out.Said.length≤400:=g2.2.1
 exact ⟨by omega,by omega,by omega,by omega,by omega,fun p hp=>by have:=zaeh (z8j g5 p hp).1;omega⟩
theorem ConsW.fit {w:Wld} {i:Int} (h:ConsW w i) (hd:w.deeds≤600):FitC 140737488351232 (zc w.consumers i) :=
 za70 h.good (n:=600) (by omega) (by have:=h.size;omega)
structure SameL (p q:za) (i:Int):Prop where
 on:p.Links.On.get i=q.Links.On.get i
 gone:p.Links.Gone.get i=q.Links.Gone.get i
 said:(zx p.Links i).Out.Said=(zx q.Links i).Out.Said
theorem SameL.refl (p:za) (i:Int):SameL p p i:=⟨rfl,rfl,rfl⟩
theorem SameL.of {p q:za} {i:Int} (h:zx p.Links i=zx q.Links i):SameL p q i:=⟨congrArg Link.On h,congrArg Link.Gone h,by rw[h]⟩
theorem ConsW.more {w w':Wld} {i:Int} (h:ConsW w i) (hc:zc w'.consumers i=zc w.consumers i) (hl:SameL w'.p w.p i) (hd:w.deeds≤w'.deeds) (ht:w.clock≤w'.clock):ConsW w' i:=by
 obtain ⟨e1,e2,e3⟩:=hl
 obtain ⟨a1,a2,a3,a4,a5,a6,a7,a8,a9⟩:=h
 refine ⟨by rw[hc];exact a1,by rw[hc];omega,by rw[hc];omega,by rw[hc];omega,by rw[hc,e1];exact a5,by rw[hc,e2];exact a6,by rw[e3];exact a7,by rw[hc];exact a8,?_⟩
 rw[e1,e2,hc,e3];exact a9
theorem zo0 {w:Wld} (h:OkW w) (hd:w.deeds < 600):OkW (zeu w) :=
 ⟨by have:=h.d0;show 0≤w.deeds+1;omega,by show w.deeds+1≤600;omega,h.t0,h.t1,h.p,by have:=h.ph;show w.p.Height≤w.deeds+1;omega,h.pt,by have:=h.pq;show ((w.p.Queue.length:Nat):Int)≤w.deeds+1;omega,
  fun i hi=>(h.c i hi).more rfl (.refl _ _) (by show w.deeds≤w.deeds+1;omega) (by exact Int.le_refl _)⟩
theorem za71:OkW newW:=by
 have g:GoodX zarn:=(goodPr_iff.1 zart).1
 refine ⟨by decide,by decide,by decide,by decide,g,by decide,by decide,by decide,fun i hi=>?_⟩
 have hc:zc newW.consumers i=default:=by rcases (show i=0∨i=1 by omega) with rfl | rfl<;>rfl
 have hl:zx newW.p.Links i=default:=by rcases (show i=0∨i=1 by omega) with rfl | rfl<;>rfl
 have e1:newW.p.Links.On.get i=false:=congrArg Link.On hl
 have e2:newW.p.Links.Gone.get i=false:=congrArg Link.Gone hl
 refine ⟨by rw[hc];decide,by rw[hc];decide,by rw[hc];decide,by rw[hc];decide,by rw[hc,e1];rfl,by rw[hc,e2];rfl,(by rw[hl];intro s hs;cases hs),(by rw[hc];intro s hs;cases hs),fun _ _=>⟨hc,by rw[hl];rfl⟩⟩
theorem zajp {w:Wld} (h:OkW w) {p:za} (hp:GoodX p) (hH:p.Height=w.p.Height) (hT:p.Time=w.p.Time) (hQ:p.Queue.length=w.p.Queue.length) (hl:∀ i:Int,0≤i∧i < 2→SameL p w.p i):OkW { w with p:=p } :=
 ⟨h.d0,h.d1,h.t0,h.t1,hp,by rw[hH];exact h.ph,by rw[hT];exact h.pt,by rw[hQ];exact h.pq,fun i hi=>(h.c i hi).more rfl (hl i hi) (Int.le_refl _) (Int.le_refl _)⟩
theorem zaen {p:za} (h:GoodX p) {s:Stake} (hs:GoodS s):GoodX { p with Stake:=s }:=⟨hs,h.2.1,h.2.2.1,h.2.2.2.1,h.2.2.2.2.1,h.2.2.2.2.2⟩
theorem zaeo {w:Wld} (h:OkW w) {s:Stake} (hs:GoodS s):OkW { w with p:={ w.p with Stake:=s } }:=zajp h (zaen h.p hs) rfl rfl rfl fun _ _=>⟨rfl,rfl,rfl⟩
theorem z8t {w:Wld} (h:OkW w) {r:za×Int} (hr:r.2=0→OkW { w with p:=r.1 }):OkW (z07 w r).1:=by
 unfold z07
 by_cases e:r.2=0
 ·rw[if_neg (by simpa using e)];exact hr e
 ·rw[if_pos e];exact h
theorem zalz {w:Wld} (h:OkW w) (d v n:Int):OkW (z07 w (zff w.p d v n)).1:=by
 refine z8t h fun h0=>?_
 unfold zff at h0 ⊢
 rw[if_pos h.pr] at h0 ⊢
 by_cases e:(zfo w.p.Stake d v n).2=0
 ·rw[if_neg (by simpa using e)];exact zaeo h (zajc e)
 ·rw[if_pos e] at h0;exact absurd h0 e
theorem zan0 {p:za} (h:GoodX p):GoodX { p with Links:=zaln p.Links }:=by
 have hlk:∀ j:Int,0≤j∧j < 2→LkX { p with Links:=zaln p.Links } j:=by
  intro j hj
  obtain ⟨a1,a2,a3,a4,a5,a6⟩:=h.lk hj
  exact ⟨a1,a2,a3,a4,a5,a6⟩
 exact ⟨h.1,h.2.1,h.2.2.1,okLk_iff.2 (hlk 0 (by omega)),okLk_iff.2 (hlk 1 (by omega)),h.2.2.2.2.2⟩
theorem zafv {w:Wld} (h:OkW w) (d v k:Int):OkW (z07 w (zcu w.p d v k w.clock)).1:=by
 refine z8t h fun h0=>?_
 unfold zcu at h0 ⊢
 have ht:zau w.p=true∧0≤w.clock∧w.clock≤1099511627776:=⟨h.pr,h.t0,by have:=h.t1;omega⟩
 rw[if_pos ht] at h0 ⊢
 by_cases e:(zb0 w.p.Stake d v k (zafq w.p w.clock)).2=0
 ·rw[if_neg (by simpa using e)]
  have g:=zad9 e
  exact zajp h (zaen (zan0 h.p) g) rfl rfl rfl fun _ _=>⟨rfl,rfl,rfl⟩
 ·rw[if_pos e] at h0;exact absurd h0 e
theorem zar2 {w:Wld} (h:OkW w) (v:Int):OkW (z07 w (zajo w.p v)).1 :=
 z8t h fun _=>zaeo h (z0n h.p.1 v (.inr (.inl rfl)))
theorem za1c {w:Wld} (h:OkW w) (v n:Int):OkW (z07 w (zyu w.p v n)).1:=by
 refine z8t h fun h0=>?_
 unfold zyu at h0 ⊢
 rw[if_neg (by rw[h.pr];simp)] at h0 ⊢
 by_cases h1:0≤v∧v < 6
 ·rw[if_pos h1] at h0 ⊢
  by_cases h2:1≤n∧n≤w.p.Height
  ·rw[if_pos h2] at h0 ⊢
   by_cases h3:w.p.Stake.Validators.Dead.get v=true
   ·rw[if_pos h3] at h0;cases h0
   ·rw[if_neg h3];exact zaeo h (z0n (z3a h.p.1 v n 50) v (.inr (.inr rfl)))
  ·rw[if_neg h2] at h0;cases h0
 ·rw[if_neg h1] at h0;cases h0
theorem za1d {w:Wld} (h:OkW w) (n:Int):OkW (zave w n).1:=by
 unfold zave
 split
 ·exact h
 ·rename_i hn
  have:=h.t0;have:=h.t1;have:=h.pt
  exact ⟨h.d0,h.d1,by show 0≤w.clock+n;omega,by show w.clock+n≤_;omega,h.p,h.ph,by show w.p.Time≤w.clock+n;omega,h.pq,fun i hi=>(h.c i hi).more rfl (.refl _ _) (Int.le_refl _) (by show w.clock≤w.clock+n;omega)⟩
theorem zapw {M:Int} (hM:0≤M):∀ {l:List Power},(∀ q,q∈l→q.N≤M)→∀ v,zc8 l v≤M
 | [],_,v=>by simpa[zc8] using hM
 | q::l,h,v=>by
  simp only[zc8]
  split
  ·exact h q (List.mem_cons_self ..)
  ·exact zapw hM (fun q hq=>h q (List.mem_cons_of_mem _ hq)) v
theorem zapx {M:Int}:∀ {d:List Power} {v n:Int},n≤M→(∀ q,q∈d→q.N≤M)→z2w d v n≤M
 | [],v,n,hn,_=>hn
 | q::d,v,n,hn,h=>by
  show z2w d v (if q.V=v then q.N else n)≤M
  refine zapx ?_ (fun q hq=>h q (List.mem_cons_of_mem _ hq))
  split
  ·exact h q (List.mem_cons_self ..)
  ·exact hn
theorem za1e {a d:List Power} (ha:zv 1 (-1) a=true) (hd:zv 0 (-1) d=true):zv 1 (-1) (z2y a d)=true :=
 za03 fun v=>zapx (zapw (by omega) (fun q hq=>(zp6 (by omega) ha (by omega) q hq).2.2.2) _) (fun q hq=>(zp6 (by omega) hd (by omega) q hq).2.2.2)
structure zar3 (c:zb):Prop where
 set:zv 1 (-1) c.Set=true
 ripes:c.Ripes.all znm=true
 id0:0≤c.Id
 id1:c.Id≤1099511627776
theorem zavf {now:Int} (hn:0≤now∧now≤1099511627776) {c:zb} (h:zar3 c) {p:Packet} (hp:zlg p=true):zar3 (zsh now c p):=by
 rw[z0l]
 obtain ⟨g1,g2,_⟩:=z8j (l:=[p]) (by simp[hp]) p (by simp)
 have f:=zp8 g1
 refine ⟨za1e h.set f.2.2.2.2.2.2.2.2.1,?_,by show 0≤p.Id;omega,f.2.2.2.1⟩
 show (c.Ripes++[(⟨p.Id,i64.wrap (now+15)⟩:Ripe)]).all znm=true
 rw[List.all_append,h.ripes]
 have:znm (⟨p.Id,i64.wrap (now+15)⟩:Ripe)=true:=by
  unfold znm
  simp only[yy7,decide_eq_true_eq]
  rw[zg (by omega) (by omega)]
  exact ⟨⟨f.2.2.1,f.2.2.2.1⟩,by omega⟩
 simp[this]
theorem zahd {now:Int} (hn:0≤now∧now≤1099511627776):∀ {l:List Packet} {c:zb},zar3 c→l.all zlg=true→zar3 (l.foldl (zsh now) c)
 | [],_,h,_=>h
 | p::l,c,h,hl=>by
  rw[List.all_cons,yy7] at hl
  exact zahd (c:=zsh now c p) hn (zavf hn h hl.1) hl.2
def matP (r:Ripe):Packet:=⟨2,r.Id,0,0,[],[]⟩
def matT (r:Ripe):ByteArray:=txt (z6e (matP r))
theorem zal0 {r:Ripe} (h:znm r=true):zgt (matP r)=0:=by
 unfold znm at h
 simp only[yy7,decide_eq_true_eq] at h
 exact zauv h.1.1 h.1.2
theorem zaep {now:Int} (hn:0≤now∧now≤1099511627776):∀ (rs:List Ripe) (c:zb),c.Ripes=rs→zeg c.Out→rs.all znm=true →
  ∃ k,k≤rs.length∧zrk now rs c={ c with Ripes:=rs.drop k,Out:={ c.Out with Said:=c.Out.Said++(rs.take k).map matT,Due:=c.Out.Due++List.replicate k (now+40) } } ∧
   (∀ r,r∈rs.take k→r.Due≤now)∧(k=rs.length∨(∃ r,rs[k]?=some r∧now < r.Due)∨c.Out.Closed=true∨400≤c.Out.Said.length+k)∧c.Out.Said.length+k≤400
 | [],c,hr,hg,_=>⟨0,Nat.le_refl _,by
   show c={ c with Ripes:=[],Out:={ c.Out with Said:=c.Out.Said++[],Due:=c.Out.Due++[] } }
   rw[List.append_nil,List.append_nil,← hr],by simp,.inl rfl,by have:c.Out.Said.length≤400:=hg.2.1;omega⟩
 | r::rs,c,hr,hg,ha=>by
  have h400:c.Out.Said.length≤400:=hg.2.1
  rw[List.all_cons,yy7] at ha
  have hstop:(r.Due≤now→c.Out.Closed=true∨400≤c.Out.Said.length)→zrk now (r::rs) c=c→∃ k,k≤(r::rs).length∧zrk now (r::rs) c={ c with Ripes:=(r::rs).drop k,Out:={ c.Out with Said:=c.Out.Said++((r::rs).take k).map matT,Due:=c.Out.Due++List.replicate k (now+40) } } ∧
    (∀ q,q∈(r::rs).take k→q.Due≤now)∧(k=(r::rs).length∨(∃ q,(r::rs)[k]?=some q∧now < q.Due)∨c.Out.Closed=true∨400≤c.Out.Said.length+k)∧c.Out.Said.length+k≤400:=by
   intro h1 h2
   refine ⟨0,Nat.zero_le _,by rw[h2];simp[← hr],by simp,?_,by omega⟩
   by_cases hd:r.Due≤now
   ·rcases h1 hd with k | k
    ·exact .inr (.inr (.inl k))
    ·exact .inr (.inr (.inr (by omega)))
   ·exact .inr (.inl ⟨r,rfl,by omega⟩)
  by_cases hd:r.Due≤now
  ·by_cases hc:c.Out.Closed=true∨400≤c.Out.Said.length
   ·refine hstop (fun _=>hc) ?_
    have e0:(zvk ⟨2,r.Id,0,0,[],[]⟩ now c).1≠0:=by
     intro e
     obtain ⟨_,k,_⟩:=zauu e
     obtain ⟨_,_,k1,k2,_⟩:=zann k
     rcases hc with hc | hc
     ·rw[hc] at k1;cases k1
     ·omega
    unfold zrk
    rw[if_pos hd,if_pos e0]
   ·have hc1:c.Out.Closed=false:=Bool.eq_false_iff.2 (fun h=>hc (.inl h))
    have hc2:c.Out.Said.length < 400:=by have:¬ 400≤c.Out.Said.length:=fun h=>hc (.inr h);omega
    have hw:i64.wrap (now+40)=now+40:=zg (by omega) (by omega)
    have hs:=za00 (p:=matP r) (now:=now) (c:=c) (zal0 ha.1) hg (by rw[hw];omega) hc1 hc2
    rw[hw] at hs
    obtain ⟨c',hc'⟩:∃ c':zb,c'={ c with Ripes:=rs,Out:={ c.Out with Said:=c.Out.Said++[matT r],Due:=c.Out.Due++[now+40] } }:=⟨_,rfl⟩
    have hstep:zrk now (r::rs) c=zrk now rs c':=by
     have hs':zvk ⟨2,r.Id,0,0,[],[]⟩ now c=_:=hs
     rw[zrk,if_pos hd,hs',if_neg (by simp),hc']
     rfl
    have hg':zeg c'.Out:=by rw[hc'];exact zag5 hg (by omega) hc2
    obtain ⟨k,k1,k2,k3,k4,k5⟩:=zaep hn rs c' (by rw[hc']) hg' ha.2
    have l1:c'.Out.Said.length=c.Out.Said.length+1:=by rw[hc'];simp
    refine ⟨k+1,by simp only[List.length_cons];omega,?_,?_,?_,by omega⟩
    ·rw[hstep,k2,hc']
     simp only[List.drop_succ_cons,List.take_succ_cons,List.map_cons,List.append_assoc,List.singleton_append,List.replicate_succ]
    ·intro q hq
     rw[List.take_succ_cons] at hq
     rcases List.mem_cons.1 hq with rfl | hq
     ·exact hd
     ·exact k3 q hq
    ·rcases k4 with k4 | k4 | k4 | k4
     ·exact .inl (by simp only[List.length_cons];omega)
     ·exact .inr (.inl (by simpa using k4))
     ·exact .inr (.inr (.inl (by rw[hc'] at k4;exact k4)))
     ·exact .inr (.inr (.inr (by omega)))
  ·exact hstop (fun h=>absurd h hd) (by unfold zrk;rw[if_neg hd])
theorem zar4 {l:zbs} (h:zeg l) {t:List ByteArray} {n u:Int} (hu:0≤u) (hl:l.Said.length+t.length≤400):zeg { l with Said:=l.Said++t,Due:=l.Due++List.replicate t.length u }:=by
 obtain ⟨g1,g2,g3,g4,g5⟩:=h
 refine ⟨by simp[g1],by simp only[yy6];omega,g3,by simp only[yy6];omega,?_⟩
 simp only[List.any_append,g5,Bool.false_or]
 rw[List.any_eq_false]
 intro x hx
 rw[List.eq_of_mem_replicate hx]
 simp only[decide_eq_true_eq];omega
theorem zar5 {now:Int} {c:zb} (hg:zkq c=true) (ho:c.On=true) (ht:c.Time≤now∧now≤1099511627776) (hh:c.Height+1 < 1099511627776) :
  (endC now c).2=0∧∃ m k,m=c.Pending.foldl (zsh now) { c with Height:=c.Height+1,Time:=now }∧zar3 m∧m.Ripes.length=c.Ripes.length+c.Pending.length∧k≤m.Ripes.length ∧
   (endC now c).1={ m with Pending:=[],Ripes:=m.Ripes.drop k,Out:={ c.Out with Said:=c.Out.Said++(m.Ripes.take k).map matT,Due:=c.Out.Due++List.replicate k (now+40) } } ∧
   m.On=c.On∧m.Gone=c.Gone∧m.Height=c.Height+1∧m.Time=now∧m.Out=c.Out∧(∀ r,r∈m.Ripes.take k→r.Due≤now) ∧
   (k=m.Ripes.length∨(∃ r,m.Ripes[k]?=some r∧now < r.Due)∨c.Out.Closed=true∨400≤c.Out.Said.length+k)∧c.Out.Said.length+k≤400∧zkq (endC now c).1=true:=by
 obtain ⟨g1,g2,g3,g4,g5⟩:=zdb hg
 have hw:i64.wrap (c.Height+1)=c.Height+1:=zg (by have:=g1.2;omega) (by have:=g1.2;omega)
 have hn0:0≤now:=by have:=g1.2.2.2.1;omega
 have he:=za01 (now:=now) hg ho ht.1 ht.2
 rw[hw] at he
 obtain ⟨m,hm⟩:∃ m,m=c.Pending.foldl (zsh now) { c with Height:=c.Height+1,Time:=now }:=⟨_,rfl⟩
 rw[← hm] at he
 have hpm:zar3 m:=by rw[hm];exact zahd ⟨hn0,ht.2⟩ ⟨g3,g4,g1.2.2.2.2.2.1,g1.2.2.2.2.2.2⟩ g5
 obtain ⟨f1,f2,f3,f4,f5,f6⟩:=zxw (now:=now) c.Pending { c with Height:=c.Height+1,Time:=now }
 rw[← hm] at f1 f2 f3 f4 f5 f6
 obtain ⟨k,k1,k2,k3,k4,k5⟩:=zaep (now:=now) ⟨hn0,ht.2⟩ m.Ripes { m with Pending:=[] } rfl (by show zeg m.Out;rw[f2];exact g2) hpm.ripes
 replace f2:m.Out=c.Out:=f2
 simp only[f2] at k4 k5
 have hfin:(endC now c).1={ m with Pending:=[],Ripes:=m.Ripes.drop k,Out:={ c.Out with Said:=c.Out.Said++(m.Ripes.take k).map matT,Due:=c.Out.Due++List.replicate k (now+40) } }:=by
  rw[he]
  show zrk now m.Ripes { m with Pending:=[] }=_
  rw[k2]
  simp only[f2]
 refine ⟨by rw[he],m,k,hm,hpm,f1,k1,hfin,f3,f4,f5,f6,f2,k3,k4,k5,?_⟩
 rw[hfin]
 have hl:((m.Ripes.take k).map matT).length=k:=by rw[List.length_map,List.length_take];omega
 refine zwk ⟨by show (m.On&&m.Gone)=false;rw[f3,f4];exact g1.1,by show 0≤m.Height;rw[f5];show 0≤c.Height+1;have:=g1.2;omega,?_,by show 0≤m.Time;rw[f6];exact hn0,by show m.Time≤_;rw[f6];exact ht.2,hpm.id0,hpm.id1⟩ ?_ hpm.set ?_ rfl
 ·show m.Height < _;rw[f5];show c.Height+1 < _
  exact hh
 ·have:=zar4 (n:=0) g2 (t:=(m.Ripes.take k).map matT) (u:=now+40) (by omega) (by rw[hl];exact k5)
  rw[hl] at this
  exact this
 ·show (m.Ripes.drop k).all znm=true
  rw[List.all_eq_true]
  intro r hr
  exact List.all_eq_true.1 hpm.ripes r (List.mem_of_mem_drop hr)
theorem zaeq {w w':Wld} (h:OkW w) (hd:w.deeds < 600) (e1:w'.deeds=w.deeds+1) (e2:w'.clock=w.clock) (p:GoodX w'.p) (ph:w'.p.Height≤w.deeds+1) (pt:w'.p.Time≤w.clock) (pq:((w'.p.Queue.length:Nat):Int)≤w.deeds+1)
  {i:Int} (ci:ConsW w' i) (cj:∀ j:Int,0≤j∧j < 2→j≠i→zc w'.consumers j=zc w.consumers j∧SameL w'.p w.p j):OkW w':=by
 have d0:=h.d0
 refine ⟨by omega,by omega,by rw[e2];exact h.t0,by rw[e2];exact h.t1,p,by omega,by omega,by omega,fun j hj=>?_⟩
 by_cases e:j=i
 ·rw[e];exact ci
 ·obtain ⟨c1,c2⟩:=cj j hj e
  exact (h.c j hj).more c1 c2 (by omega) (by omega)
theorem zajq {w w':Wld} (h:OkW w) (hd:w.deeds < 600) (e1:w'.deeds=w.deeds+1) (e2:w'.clock=w.clock) (e3:w'.p=w.p) {i:Int} (hi:0≤i∧i < 2) {c:zb} (hc:w'.consumers=zqh w.consumers i c)
  (good:zkq c=true) (height:c.Height≤w.deeds+1) (time:c.Time≤w.clock) (size:((c.Pending.length+c.Ripes.length:Nat):Int)≤w.deeds+1) (on:c.On=(zc w.consumers i).On) (gone:c.Gone=(zc w.consumers i).Gone)
  (said:∀ s,s∈c.Out.Said→PkB s) (ho:(zc w.consumers i).On=true):OkW w':=by
 have hw:=h.c i hi
 have hci:zc w'.consumers i=c:=by rw[hc,zve hi]
 refine zaeq (i:=i) h hd e1 e2 (by rw[e3];exact h.p) (by rw[e3];have:=h.ph;omega) (by rw[e3];exact h.pt) (by rw[e3];have:=h.pq;omega) ?_ fun j hj hji=>⟨by rw[hc,zrm hi hj hji],by rw[e3];exact .refl _ _⟩
 have on':w.p.Links.On.get i=true:=by rw[← hw.on];exact ho
 refine ⟨by rw[hci];exact good,by rw[hci,e1];exact height,by rw[hci,e2];exact time,by rw[hci,e1];exact size,by rw[hci,e3,on];exact hw.on,by rw[hci,e3,gone];exact hw.gone,by rw[e3];exact hw.told,by rw[hci];exact said,fun k=>?_⟩
 rw[e3,on'] at k;cases k
theorem zavg {a b:ByteArray} (h:a.toList=b.toList):a=b:=by
 rw[ByteArray.toList_eq,ByteArray.toList_eq] at h
 obtain ⟨⟨a⟩⟩:=a
 obtain ⟨⟨b⟩⟩:=b
 simp only at h
 rw[h]
theorem za72 {r:Ripe} (h:znm r=true):PkB (matT r):=⟨matP r,zal0 h,by unfold matP;simp,rfl⟩
theorem zan1 {w:Wld} (h:OkW w) (hd:w.deeds < 600) {i:Int} (hi:0≤i∧i < 2) (ho:(zc w.consumers i).On=true):OkW (z8r (zeu w) i).1:=by
 have hc:=h.c i hi
 have h1:=h.t1
 have hh:=hc.height
 obtain ⟨e0,m,k,hm,hpm,hl,hk,hf,f1,f2,f3,f4,f5,f6,f7,f8,hg⟩:=zar5 hc.good ho ⟨hc.time,by omega⟩ (by omega)
 unfold z8r
 rw[if_neg (by show ¬ (endC w.clock (zc w.consumers i)).2≠0;rw[e0];simp)]
 refine zajq h hd rfl rfl rfl hi (c:=(endC w.clock (zc w.consumers i)).1) rfl hg ?_ ?_ ?_ ?_ ?_ ?_ ho
 all_goals rw[hf]
 ·show m.Height≤_;rw[f3];omega
 ·show m.Time≤_;rw[f4];omega
 ·have:=hc.size
  simp only[List.length_nil,List.length_drop]
  omega
 ·exact f1
 ·exact f2
 ·intro s hs
  rcases List.mem_append.1 hs with hs | hs
  ·exact hc.said s hs
  ·obtain ⟨r,hr,rfl⟩:=List.mem_map.1 hs
   exact za72 (List.all_eq_true.1 hpm.ripes r (List.mem_of_mem_take hr))
theorem zavh {c:zb} (hg:zkq c=true) {q:Packet} (hq:q.Kind≠1) {now:Int} (h:(zvk q now c).1=0) :
  zgt q=0∧0≤i64.wrap (now+40)∧c.Out.Closed=false∧c.Out.Said.length < 400∧(zvk q now c).2={ c with Out:={ c.Out with Said:=c.Out.Said++[txt (z6e q)],Due:=c.Out.Due++[i64.wrap (now+40)] } }∧zkq (zvk q now c).2=true:=by
 obtain ⟨k1,k2,k3⟩:=zauu h
 obtain ⟨l1,l2,l3,l4,_⟩:=zann k2
 obtain ⟨g1,g2,g3,g4,g5⟩:=zdb hg
 refine ⟨k1,l2,l3,l4,by rw[k3],?_⟩
 rw[k3]
 exact zwk g1 (zag5 l1 l2 l4) g3 g4 g5
theorem zavi {w w':Wld} (h:OkW w) (hd:w.deeds < 600) (e1:w'.deeds=w.deeds+1) (e2:w'.clock=w.clock) (e3:w'.p=w.p) {i:Int} (hi:0≤i∧i < 2) (ho:(zc w.consumers i).On=true) {q:Packet} (hq:q.Kind≠1) (hs:(zvk q w.clock (zc w.consumers i)).1=0) {f:A6 Bool}
  (hc:w'.consumers=zqh w.consumers i { (zvk q w.clock (zc w.consumers i)).2 with Flags:=f }):OkW w':=by
 have hw:=h.c i hi
 obtain ⟨s1,s2,s3,s4,s5,s6⟩:=zavh hw.good hq hs
 obtain ⟨g1,g2,g3,g4,g5⟩:=zdb s6
 have hz:=hw.size;have hh:=hw.height;have ht:=hw.time
 refine zajq h hd e1 e2 e3 hi hc (zwk g1 g2 g3 g4 g5) ?_ ?_ ?_ ?_ ?_ ?_ ho
 all_goals rw[s5]
 ·show (zc w.consumers i).Height≤_;omega
 ·exact ht
 ·show (((zc w.consumers i).Pending.length+(zc w.consumers i).Ripes.length:Nat):Int)≤_;omega
 ·intro s hs
  rcases List.mem_append.1 hs with hs | hs
  ·exact hw.said s hs
  ·rw[List.mem_singleton.1 hs];exact ⟨q,s1,hq,rfl⟩
theorem zapy {w:Wld} (h:OkW w) (hd:w.deeds < 600) {i:Int} {r:zb×Int} (hr:r.2=0→OkW { zeu w with consumers:=zqh w.consumers i r.1 }):OkW (putW (zeu w) i r).1:=by
 unfold putW
 by_cases e:r.2=0
 ·rw[if_neg (by simpa using e)];exact hr e
 ·rw[if_pos e];exact zo0 h hd
theorem za1f {w:Wld} (h:OkW w) (hd:w.deeds < 600) {i:Int} (hi:0≤i∧i < 2) (ho:(zc w.consumers i).On=true) (v:Int):OkW (putW (zeu w) i (z6j (zc w.consumers i) v w.clock)).1:=by
 refine zapy h hd fun h0=>?_
 obtain ⟨_,_,_,_,_,_,_,hs,he⟩:=za02 h0
 rw[he]
 exact zavi h hd rfl rfl rfl hi ho (by simp) hs rfl
theorem zar6 {w:Wld} (h:OkW w) (hd:w.deeds < 600) {i:Int} (hi:0≤i∧i < 2) (ho:(zc w.consumers i).On=true) (v n:Int):OkW (putW (zeu w) i (zqb (zc w.consumers i) v n w.clock)).1:=by
 refine zapy h hd fun h0=>?_
 unfold zqb at h0 ⊢
 by_cases h1:zkq (zc w.consumers i)=false∨w.clock < 0∨1099511627776 < w.clock
 ·rw[if_pos h1] at h0;cases h0
 rw[if_neg h1] at h0 ⊢
 by_cases h2:(zc w.consumers i).On=false∨v < 0∨5 < v
 ·rw[if_pos h2] at h0;cases h0
 rw[if_neg h2] at h0 ⊢
 by_cases h3:n < 1∨(zc w.consumers i).Id < n
 ·rw[if_pos h3] at h0;cases h0
 rw[if_neg h3] at h0 ⊢
 exact zavi h hd rfl rfl rfl hi ho (q:=⟨4,n,v,maxC (zc w.consumers i) v,[],[]⟩) (by simp) h0 (f:=(zvk ⟨4,n,v,maxC (zc w.consumers i) v,[],[]⟩ w.clock (zc w.consumers i)).2.Flags) rfl
theorem zar7 {p:za} (h:GoodX p) {i:Int} (hi:0≤i∧i < 2) {l:zbs} (hl:zeg l):GoodX { p with Links:=zael p.Links i l }:=by
 have hlk:∀ j:Int,0≤j∧j < 2→LkX { p with Links:=zael p.Links i l } j:=by
  intro j hj
  obtain ⟨a1,a2,a3,a4,a5,a6⟩:=h.lk hj
  refine ⟨a1,a2,a3,a4,?_,a6⟩
  rw[z6l,z92 hi hj]
  split
  ·exact hl
  ·exact a5
 exact ⟨h.1,h.2.1,h.2.2.1,okLk_iff.2 (hlk 0 (by omega)),okLk_iff.2 (hlk 1 (by omega)),h.2.2.2.2.2⟩
theorem zar8 {p:za} (h:GoodX p) (i:Int) (s:Head):GoodX { p with Links:=zanz p.Links i s }:=by
 have hlk:∀ j:Int,0≤j∧j < 2→LkX { p with Links:=zanz p.Links i s } j:=by
  intro j hj
  obtain ⟨a1,a2,a3,a4,a5,a6⟩:=h.lk hj
  exact ⟨a1,a2,a3,a4,a5,a6⟩
 exact ⟨h.1,h.2.1,h.2.2.1,okLk_iff.2 (hlk 0 (by omega)),okLk_iff.2 (hlk 1 (by omega)),h.2.2.2.2.2⟩
theorem zavj {w:Wld} (h:OkW w) (hd:w.deeds < 600) {i:Int} (hi:0≤i∧i < 2) (ho:(zc w.consumers i).On=true) (back:Bool):OkW (zaly (zeu w) i back).1:=by
 unfold zaly
 have hw:=h.c i hi
 cases back with
 | true =>
  rw[if_pos rfl]
  refine zajp (zo0 h hd) (zar8 h.p i _) rfl rfl rfl fun j hj=>⟨rfl,rfl,?_⟩
  rfl
 | false =>
  rw[if_neg (by simp)]
  obtain ⟨g1,g2,g3,g4,g5⟩:=zdb hw.good
  have hz:=hw.size;have hh:=hw.height
  exact zajq h hd rfl rfl rfl hi rfl (zwk g1 g2 g3 g4 g5) (by show (zc w.consumers i).Height≤_;omega) hw.time (by show (((zc w.consumers i).Pending.length+(zc w.consumers i).Ripes.length:Nat):Int)≤_;omega) rfl rfl hw.said ho
theorem zar9 {w:Wld} {d:Deed} (h:(ztk w d).2=0):zeg (ze2 w d.C d.Back)∧(ze2 w d.C d.Back).Closed=false∧(ze2 w d.C d.Back).Got+1≤((ze2 w d.C d.Back).Said.length:Int)∧(ze2 w d.C d.Back).Got+1≤z8s w d.C d.Back ∧
  zlu (ze2 w d.C d.Back) d.Forged=(ze2 w d.C d.Back).Said.getD (ze2 w d.C d.Back).Got.toNat .empty∧w.clock < (ze2 w d.C d.Back).Due.getD (ze2 w d.C d.Back).Got.toNat 0 ∧
  (ztk w d).1={ ze2 w d.C d.Back with Got:=(ze2 w d.C d.Back).Got+1 }∧zeg (ztk w d).1:=by
 have hs:(ze2 w d.C d.Back).Got+1≤z8s w d.C d.Back:=by
  unfold ztk zoy at h
  by_cases h1:¬ zeg (ze2 w d.C d.Back)
  ·rw[if_pos h1] at h;cases h
  rw[if_neg h1] at h
  have hl:=Classical.not_not.1 h1
  have e4:(ze2 w d.C d.Back).Said.length≤400:=hl.2.1
  have hw:i64.wrap ((ze2 w d.C d.Back).Got+1)=(ze2 w d.C d.Back).Got+1:=zg (by have:=hl.2.2.1;omega) (by have:=hl.2.2.2.1;omega)
  rw[hw] at h
  by_cases h2:(ze2 w d.C d.Back).Closed=true
  ·rw[if_pos h2] at h;cases h
  rw[if_neg h2,if_neg (by simp)] at h
  by_cases h3:z8s w d.C d.Back < (ze2 w d.C d.Back).Got+1∨((ze2 w d.C d.Back).Said.length:Int) < (ze2 w d.C d.Back).Got+1∨((ze2 w d.C d.Back).Said.getD (ze2 w d.C d.Back).Got.toNat .empty).toList≠(zlu (ze2 w d.C d.Back) d.Forged).toList
  ·rw[if_pos h3] at h;cases h
  ·simp only[not_or] at h3;omega
 obtain ⟨h1,h2,h3,h4,h5,h6,h7⟩:=zaqp h
 have e4:(ze2 w d.C d.Back).Said.length≤400:=h1.2.1
 have hw:i64.wrap ((ze2 w d.C d.Back).Got+1)=(ze2 w d.C d.Back).Got+1:=zg (by have:=h1.2.2.1;omega) (by have:=h1.2.2.2.1;omega)
 rw[hw] at h4
 have he:(ztk w d).1={ ze2 w d.C d.Back with Got:=(ze2 w d.C d.Back).Got+1 }:=by
  unfold ztk
  rw[h7,hw]
 refine ⟨h1,Bool.eq_false_iff.2 h2,h4,hs,?_,h6,he,?_⟩
 ·exact (zavg h5).symm
 ·rw[he]
  obtain ⟨g1,g2,g3,g4,g5⟩:=h1
  exact ⟨g1,g2,by show 0≤(ze2 w d.C d.Back).Got+1;omega,h4,g5⟩
theorem zan2 {c:zb} (hg:zkq c=true) {s:List UInt8} (h:(z29 c s).2=0):c.On=true∧zgt (zaz s).1=0∧(zaz s).1.Kind=1∧(zaz s).2=0∧(z29 c s).1={ c with Pending:=c.Pending++[(zaz s).1] }∧zkq (z29 c s).1=true:=by
 unfold z29 at h ⊢
 rw[if_neg (by rw[hg];simp)] at h ⊢
 by_cases h1:c.On=false
 ·rw[if_pos h1] at h;cases h
 rw[if_neg h1] at h ⊢
 by_cases h2:(zaz s).2=0
 ·rw[if_neg (by simpa using h2)] at h ⊢
  by_cases h3:(zaz s).1.Kind=1
  ·rw[if_neg (by simpa using h3)]
   have gp:=zapv h2
   refine ⟨by simpa using h1,gp,h3,h2,rfl,?_⟩
   obtain ⟨g1,g2,g3,g4,g5⟩:=zdb hg
   refine zwk g1 g2 g3 g4 ?_
   show (c.Pending++[(zaz s).1]).all zlg=true
   rw[List.all_append,g5]
   simp[zlg,gp,h3]
  ·rw[if_pos h3] at h;cases h
 ·rw[if_pos h2] at h;exact absurd h h2
theorem zal1 {p:za} (hg:zau p=true) {i:Int} {s:List UInt8} (h:(zss p i s).2=0):(0≤i∧i < 2)∧p.Links.On.get i=true∧zgt (zaz s).1=0∧(zaz s).1.Kind≠1∧(zaz s).2=0∧(zss p i s).1={ p with Queue:=p.Queue++[⟨i,(zaz s).1⟩] }∧GoodX (zss p i s).1:=by
 unfold zss at h ⊢
 rw[if_neg (by rw[hg];simp)] at h ⊢
 by_cases h1:(0≤i∧i < 2)∧p.Links.On.get i=true
 ·rw[if_pos h1] at h ⊢
  by_cases h2:(zaz s).2=0
  ·rw[if_neg (by simpa using h2)] at h ⊢
   by_cases h3:(zaz s).1.Kind=1
   ·rw[if_pos h3] at h;cases h
   ·rw[if_neg h3]
    have gp:=zapv h2
    have hx:=(goodPr_iff.1 hg).1
    refine ⟨h1.1,h1.2,gp,h3,h2,rfl,hx.1,hx.2.1,hx.2.2.1,hx.2.2.2.1,hx.2.2.2.2.1,?_⟩
    show (p.Queue++[_]).all _=true
    rw[List.all_append,yy7]
    refine ⟨hx.2.2.2.2.2,List.all_eq_true.2 fun b hb=>?_⟩
    rw[List.mem_singleton.1 hb]
    exact ask_iff.2 ⟨h1.1,h1.2,gp,h3⟩
  ·rw[if_pos h2] at h;exact absurd h h2
 ·rw[if_neg h1] at h;cases h
theorem zan3 {w:Wld} (h:OkW w) (hd:w.deeds < 600) {d:Deed} (hi:0≤d.C∧d.C < 2) (ho:(zc w.consumers d.C).On=true):OkW (ztl (zeu w) d).1:=by
 have hw:=h.c d.C hi
 unfold ztl
 by_cases h0:(ztk w d).2=0
 ·rw[if_neg (by show ¬ (ztk w d).2≠0;simpa using h0)]
  obtain ⟨f1,f2,f3,f4,f5,f6,f7,f8⟩:=zar9 h0
  cases hb:d.Back with
  | true =>
   rw[if_pos rfl]
   rw[hb] at f5
   have e0:ze2 w d.C true=(zc w.consumers d.C).Out:=rfl
   by_cases h1:(zss w.p d.C (zlu (ze2 w d.C true) d.Forged).data.toList).2=0
   ·rw[if_neg (by show ¬ (zss w.p d.C (zlu (ze2 w d.C true) d.Forged).data.toList).2≠0;simpa using h1)]
    obtain ⟨q1,q2,q3,q4,q5,q6,q7⟩:=zal1 h.pr h1
    obtain ⟨g1,g2,g3,g4,g5⟩:=zdb hw.good
    have hz:=hw.size;have hh:=hw.height;have hp:=h.ph;have hq:=h.pq
    have hr:(ztk w d).1={ (zc w.consumers d.C).Out with Got:=(zc w.consumers d.C).Out.Got+1 }:=by rw[f7,hb];rfl
    have e6:(zss (zeu w).p d.C (zlu (ze2 (zeu w) d.C true) d.Forged).data.toList).1={ w.p with Queue:=w.p.Queue++[⟨d.C,(zaz (zlu (ze2 w d.C true) d.Forged).data.toList).1⟩] }:=q6
    simp only[e6]
    refine zaeq (i:=d.C) h hd rfl rfl (by rw[← q6];exact q7) (by show w.p.Height≤_;omega) h.pt (by show (((w.p.Queue++[_]).length:Nat):Int)≤_;rw[yy6,yy5];omega) ?_ fun j hj hji=>⟨zrm hi hj hji _,rfl,rfl,rfl⟩
    have hci:zc (zqh (zeu w).consumers d.C { zc (zeu w).consumers d.C with Out:=(ztk (zeu w) d).1 }) d.C={ zc w.consumers d.C with Out:=(ztk w d).1 }:=zve hi _
    refine ⟨?_,?_,?_,?_,?_,?_,hw.told,?_,fun k=>?_⟩
    ·rw[hci];exact zwk g1 f8 g3 g4 g5
    ·rw[hci];show (zc w.consumers d.C).Height≤w.deeds+1;omega
    ·rw[hci];exact hw.time
    ·rw[hci];show (((zc w.consumers d.C).Pending.length+(zc w.consumers d.C).Ripes.length:Nat):Int)≤w.deeds+1;omega
    ·rw[hci];exact hw.on
    ·rw[hci];exact hw.gone
    ·rw[hci];show ∀ s,s∈(ztk w d).1.Said→PkB s;rw[hr];exact hw.said
    ·have k':w.p.Links.On.get d.C=false:=k
     rw[q2] at k';cases k'
   ·rw[if_pos (by exact h1)];exact zo0 h hd
  | false =>
   rw[if_neg (by simp)]
   rw[hb] at f5
   by_cases h1:(z29 (zc w.consumers d.C) (zlu (ze2 w d.C false) d.Forged).data.toList).2=0
   ·rw[if_neg (by show ¬ (z29 (zc w.consumers d.C) (zlu (ze2 w d.C false) d.Forged).data.toList).2≠0;simpa using h1)]
    obtain ⟨q1,q2,q3,q4,q5,q6⟩:=zan2 hw.good h1
    have hz:=hw.size;have hh:=hw.height;have hp:=h.ph;have hq:=h.pq
    have hr:(ztk w d).1={ (zx w.p.Links d.C).Out with Got:=(zx w.p.Links d.C).Out.Got+1 }:=by rw[f7,hb];rfl
    have on':w.p.Links.On.get d.C=true:=by rw[← hw.on];exact ho
    refine zaeq (i:=d.C) h hd rfl rfl (zar7 h.p hi f8) (by show w.p.Height≤_;omega) h.pt (by show ((w.p.Queue.length:Nat):Int)≤_;omega) ?_ fun j hj hji=>⟨zrm hi hj hji _,rfl,rfl,?_⟩
    ·have hci:zc (zqh (zeu w).consumers d.C (z29 (zc (zeu w).consumers d.C) (zlu (ze2 (zeu w) d.C false) d.Forged).data.toList).1) d.C=(z29 (zc w.consumers d.C) (zlu (ze2 w d.C false) d.Forged).data.toList).1:=zve hi _
     refine ⟨?_,?_,?_,?_,?_,?_,?_,?_,fun k=>?_⟩
     ·rw[hci];exact q6
     ·rw[hci,q5];show (zc w.consumers d.C).Height≤w.deeds+1;omega
     ·rw[hci,q5];exact hw.time
     ·rw[hci,q5]
      show ((((zc w.consumers d.C).Pending++[_]).length+(zc w.consumers d.C).Ripes.length:Nat):Int)≤w.deeds+1
      rw[yy6,yy5];omega
     ·rw[hci,q5];exact hw.on
     ·rw[hci,q5];exact hw.gone
     ·show ∀ s,s∈(zx (zael w.p.Links d.C (ztk w d).1) d.C).Out.Said→Pk1 s
      rw[z92 hi hi,if_pos rfl,hr];exact hw.told
     ·rw[hci,q5];exact hw.said
     ·have k':w.p.Links.On.get d.C=false:=k
      rw[on'] at k';cases k'
    ·show (zx (zael w.p.Links d.C (ztk w d).1) j).Out.Said=_
     rw[z92 hi hj,if_neg hji]
   ·rw[if_pos (by exact h1)];exact zo0 h hd
 ·rw[if_pos (by exact h0)];exact zo0 h hd
theorem zan4 {w:Wld} (h:OkW w) (hd:w.deeds < 600):OkW (z0o (zeu w)).1:=by
 have ht:zau w.p=true∧w.p.Time≤w.clock∧w.clock≤1099511627776:=⟨h.pr,h.pt,by have:=h.t1;omega⟩
 unfold z0o
 rw[if_neg (by show ¬ (zpb w.p w.clock).2.2≠0;rw[zavb ht];simp)]
 obtain ⟨r1,r2,r3,r4,r5,r6,r7,r8⟩:=za1a ht
 obtain ⟨S,D,M,e,hS,hdn,hl,hm⟩:=zab3 ht.1 w.clock
 have hg:=za09 ht.1 ht.2
 have hp:=h.ph;have hq:=h.pq;have d0:=h.d0
 refine ⟨by show 0≤w.deeds+1;omega,by show w.deeds+1≤600;omega,h.t0,h.t1,hg,by show (zpb w.p w.clock).1.Height≤w.deeds+1;rw[r1];omega,by show (zpb w.p w.clock).1.Time≤w.clock;rw[r2];exact Int.le_refl _,by show (((zpb w.p w.clock).1.Queue.length:Nat):Int)≤w.deeds+1;rw[r5];omega,fun i hi=>?_⟩
 obtain ⟨D',-,hD⟩:=za1b ht hi
 have hw:=h.c i hi
 have hz:=hw.size;have hh:=hw.height
 have o1:(zpb w.p w.clock).1.Links.On.get i=w.p.Links.On.get i:=by rw[r6]
 have o2:(zpb w.p w.clock).1.Links.Gone.get i=w.p.Links.Gone.get i:=by rw[r7]
 refine ⟨hw.good,by show (zc w.consumers i).Height≤w.deeds+1;omega,hw.time,by show (((zc w.consumers i).Pending.length+(zc w.consumers i).Ripes.length:Nat):Int)≤w.deeds+1;omega,hw.on.trans o1.symm,hw.gone.trans o2.symm,?_,hw.said,?_⟩
 ·show ∀ s,s∈(zx (zpb w.p w.clock).1.Links i).Out.Said→Pk1 s
  rw[← z6l]
  rcases hD with ⟨-,-,-,e4,-⟩ | ⟨-,-,-,-,-,-,-,e8,e9⟩
  ·rw[e4];exact hw.told
  ·rw[e9]
   intro s hs
   rcases List.mem_append.1 hs with hs | hs
   ·exact hw.told s hs
   ·rw[List.mem_singleton.1 hs];exact ⟨_,e8,rfl,rfl⟩
 ·intro k1 k2
  have k1':w.p.Links.On.get i=false:=o1.symm.trans k1
  obtain ⟨c1,c2⟩:=hw.fresh k1' (o2.symm.trans k2)
  refine ⟨c1,?_⟩
  show (zx (zpb w.p w.clock).1.Links i).Out.Said=[]
  rw[← z6l]
  rcases hD with ⟨-,-,-,e4,-⟩ | ⟨-,-,-,e4,-⟩
  ·rw[e4];exact c2
  ·rw[k1'] at e4;cases e4
theorem z3d {L:Links} {i j H:Int} {T:List Power} {f:Bool} (hi:0≤i∧i < 2) (hj:0≤j∧j < 2):zx (zlh L i H T f) j=if j=i then ⟨true,false,H,T,f,[],⟨[],[],0,false⟩,⟨0,0,0,0⟩⟩ else zx L j:=by
 unfold zx zlh
 simp only[za6 _ _ hi hj]
 by_cases e:j=i
 ·simp only[if_pos e]
 ·simp only[if_neg e]
theorem z6n {p:za} {i:Int} (h:(zgq p i).2=0):zau p=true∧(0≤i∧i < 2)∧p.Links.Gone.get i=false∧p.Links.On.get i=false∧1≤p.Height∧p.Set.length≠0∧(zgq p i).1=znn p i (p.Stake.Waits.map (zkr i p.Height)) (z6o p):=by
 unfold zgq at h ⊢
 cases hg:zau p with
 | false=>rw[if_pos hg] at h;cases h
 | true =>
  rw[if_neg (by rw[hg];simp)] at h
  rw[if_neg (by simp)]
  by_cases hi:0≤i∧i < 2
  ·rw[if_pos hi] at h ⊢
   by_cases h1:p.Links.Gone.get i=true
   ·rw[if_pos h1] at h;cases h
   rw[if_neg h1] at h ⊢
   by_cases h2:p.Links.On.get i=true
   ·rw[if_pos h2] at h;cases h
   rw[if_neg h2] at h ⊢
   by_cases h3:p.Height < 1∨p.Set.length=0
   ·rw[if_pos h3] at h;cases h
   rw[if_neg h3]
   simp only[not_or] at h3
   exact ⟨rfl,hi,Bool.eq_false_iff.2 h1,Bool.eq_false_iff.2 h2,by omega,h3.2,rfl⟩
  ·rw[if_neg hi] at h;cases h
theorem zasa {p:za} (hx:GoodX p) {i:Int} (hi:0≤i∧i < 2) (ho:p.Links.On.get i=false):GoodX (znn p i (p.Stake.Waits.map (zkr i p.Height)) (z6o p)):=by
 obtain ⟨b1,b2,b3,b4,b5,b6,b7⟩:=hx.1
 have hf:∀ w,(zkr i p.Height w).Number=w.Number∧(zkr i p.Height w).D=w.D∧(zkr i p.Height w).V=w.V∧(zkr i p.Height w).Amount=w.Amount∧(zkr i p.Height w).Height=w.Height∧(zkr i p.Height w).Due=w.Due:=by
  intro w;unfold zkr;split<;>exact ⟨rfl,rfl,rfl,rfl,rfl,rfl⟩
 have gs:GoodS { p.Stake with Waits:=p.Stake.Waits.map (zkr i p.Height) }:=by
  refine ⟨b1,⟨b2.1,b2.2.1,by show (p.Stake.Waits.map _).length≤60;rw[List.length_map];exact b2.2.2⟩,b3,z3q (fun w hw=>⟨(hf w).1,(hf w).2.1,(hf w).2.2.1,by rw[(hf w).2.2.2.1];exact hw,(hf w).2.2.2.2.1,(hf w).2.2.2.2.2⟩) b4,b5,?_,b7⟩
  show zvf (p.Stake.Waits.map _)=_
  rw[zaje (fun w=>(hf w).2.2.2.1)];exact b6
 have hlk:∀ j:Int,0≤j∧j < 2→LkX (znn p i (p.Stake.Waits.map (zkr i p.Height)) (z6o p)) j:=by
  intro j hj
  obtain ⟨a1,a2,a3,a4,a5,a6⟩:=hx.lk hj
  have el:=z3d (L:=p.Links) (H:=p.Height) (T:=p.Set) (f:=z6o p) hi hj
  by_cases e:j=i
  ·rw[if_pos e] at el
   have z:=hx.2.1.1
   exact ⟨by show ¬ ((zx (zlh p.Links i p.Height p.Set (z6o p)) j).On=true∧(zx (zlh p.Links i p.Height p.Set (z6o p)) j).Gone=true);rw[el];simp,by show 0≤(zx (zlh p.Links i p.Height p.Set (z6o p)) j).Base;rw[el];exact z,
    by show (zx (zlh p.Links i p.Height p.Set (z6o p)) j).Base≤p.Height;rw[el];exact Int.le_refl _,by show zv 1 (-1) (zx (zlh p.Links i p.Height p.Set (z6o p)) j).Told=true;rw[el];exact hx.2.2.1,
    by show zeg (zx (zlh p.Links i p.Height p.Set (z6o p)) j).Out;rw[el];exact zaeb,by show zad (-1) (zx (zlh p.Links i p.Height p.Set (z6o p)) j).Done=true;rw[el];rfl⟩
  ·rw[if_neg e] at el
   exact ⟨by show ¬ ((zx (zlh p.Links i p.Height p.Set (z6o p)) j).On=true∧(zx (zlh p.Links i p.Height p.Set (z6o p)) j).Gone=true);rw[el];exact a1,by show 0≤(zx (zlh p.Links i p.Height p.Set (z6o p)) j).Base;rw[el];exact a2,
    by show (zx (zlh p.Links i p.Height p.Set (z6o p)) j).Base≤p.Height;rw[el];exact a3,by show zv 1 (-1) (zx (zlh p.Links i p.Height p.Set (z6o p)) j).Told=true;rw[el];exact a4,
    by show zeg (zx (zlh p.Links i p.Height p.Set (z6o p)) j).Out;rw[el];exact a5,by show zad (-1) (zx (zlh p.Links i p.Height p.Set (z6o p)) j).Done=true;rw[el];exact a6⟩
 refine ⟨gs,hx.2.1,hx.2.2.1,okLk_iff.2 (hlk 0 (by omega)),okLk_iff.2 (hlk 1 (by omega)),List.all_eq_true.2 fun b hb=>ask_iff.2 ?_⟩
 obtain ⟨q1,q2,q3,q4⟩:=hx.ask hb
 refine ⟨q1,?_,q3,q4⟩
 show (p.Links.On.set i true).get b.C=true
 rw[za6 _ _ hi q1]
 split
 ·rfl
 ·exact q2
theorem zavk {w:Wld} (h:OkW w) (hd:w.deeds < 600) (i:Int):OkW (zaem (zeu w) i).1:=by
 unfold zaem
 by_cases h0:(zgq w.p i).2=0
 ·rw[if_neg (by show ¬ (zgq w.p i).2≠0;simpa using h0)]
  obtain ⟨f1,hi,f3,f4,f5,f6,f7⟩:=z6n h0
  have hgb:=zasa h.p hi f4
  have hp:=h.ph;have hq:=h.pq;have d0:=h.d0;have d1:=h.d1
  have e6:(zgq (zeu w).p i).1=znn w.p i (w.p.Stake.Waits.map (zkr i w.p.Height)) (z6o w.p):=f7
  simp only[e6]
  refine zaeq (i:=i) h hd rfl rfl hgb (by show w.p.Height≤_;omega) h.pt (by show ((w.p.Queue.length:Nat):Int)≤_;omega) ?_ fun j hj hji=>⟨zrm hi hj hji _,.of ?_⟩
  ·have hci:zc (zqh (zeu w).consumers i (zys w.p.Set w.p.Height w.clock)) i=zys w.p.Set w.p.Height w.clock:=zve hi _
   have el:=z3d (L:=w.p.Links) (H:=w.p.Height) (T:=w.p.Set) (f:=z6o w.p) hi hi
   rw[if_pos rfl] at el
   have t0:=h.t0;have t1:=h.t1;have z:=h.p.2.1.1
   refine ⟨?_,?_,?_,?_,?_,?_,?_,?_,fun k=>?_⟩
   ·show zkq (zc (zqh (zeu w).consumers i (zys w.p.Set w.p.Height w.clock)) i)=true
    rw[hci]
    exact zwk ⟨rfl,by show (0:Int)≤0;omega,by show (0:Int) < _;omega,t0,by show w.clock≤_;omega,z,by show w.p.Height≤_;omega⟩ zaeb h.p.2.2.1 rfl rfl
   ·show (zc (zqh (zeu w).consumers i (zys w.p.Set w.p.Height w.clock)) i).Height≤w.deeds+1
    rw[hci];show (0:Int)≤_;omega
   ·show (zc (zqh (zeu w).consumers i (zys w.p.Set w.p.Height w.clock)) i).Time≤w.clock
    rw[hci];exact Int.le_refl _
   ·show (((zc (zqh (zeu w).consumers i (zys w.p.Set w.p.Height w.clock)) i).Pending.length+(zc (zqh (zeu w).consumers i (zys w.p.Set w.p.Height w.clock)) i).Ripes.length:Nat):Int)≤w.deeds+1
    rw[hci];show ((0:Nat):Int)≤_;omega
   ·show (zc (zqh (zeu w).consumers i (zys w.p.Set w.p.Height w.clock)) i).On=(zx (zlh w.p.Links i w.p.Height w.p.Set (z6o w.p)) i).On
    rw[hci,el];rfl
   ·show (zc (zqh (zeu w).consumers i (zys w.p.Set w.p.Height w.clock)) i).Gone=(zx (zlh w.p.Links i w.p.Height w.p.Set (z6o w.p)) i).Gone
    rw[hci,el];rfl
   ·show ∀ s,s∈(zx (zlh w.p.Links i w.p.Height w.p.Set (z6o w.p)) i).Out.Said→Pk1 s
    rw[el];intro s hs;cases hs
   ·show ∀ s,s∈(zc (zqh (zeu w).consumers i (zys w.p.Set w.p.Height w.clock)) i).Out.Said→PkB s
    rw[hci];intro s hs;cases hs
   ·have k':(zx (zlh w.p.Links i w.p.Height w.p.Set (z6o w.p)) i).On=false:=k
    rw[el] at k';cases k'
  ·show zx (zlh w.p.Links i w.p.Height w.p.Set (z6o w.p)) j=_
   rw[z3d hi hj,if_neg hji]
 ·rw[if_pos (by exact h0)];exact zo0 h hd
theorem z4y {L:Links} {i j:Int} (hi:0≤i∧i < 2) (hj:0≤j∧j < 2):zx (zwl L i) j=if j=i then { zx L j with On:=false,Gone:=true,Fresh:=false,Done:=[],Out:={ (zx L j).Out with Closed:=true } } else zx L j:=by
 unfold zx zwl
 simp only[za6 _ _ hi hj]
 by_cases e:j=i
 ·simp only[if_pos e]
 ·simp only[if_neg e]
theorem zavl {w:Wld} (h:OkW w) {i:Int} (hi:0≤i∧i < 2) (ho:(zc w.consumers i).On=true):ztj w.p i=z8p w.p i∧z0m (zc w.consumers i)={ zc w.consumers i with On:=false,Gone:=true,Out:={ (zc w.consumers i).Out with Closed:=true } }:=by
 have on':w.p.Links.On.get i=true:=by rw[← (h.c i hi).on];exact ho
 exact ⟨by unfold ztj;rw[if_pos ⟨h.pr,hi,on'⟩],by unfold z0m;rw[if_neg (by rw[ho];simp)]⟩
theorem zasb {w:Wld} (h:OkW w) (hd:w.deeds < 600) {d:Deed} (hi:0≤d.C∧d.C < 2) (ho:(zc w.consumers d.C).On=true):OkW (z6m (zeu w) d).1:=by
 unfold z6m
 by_cases h0:(zar1 w d).2=0
 ·rw[if_neg (by show ¬ (zar1 w d).2≠0;simpa using h0)]
  obtain ⟨f1,f2⟩:=zavl h hi ho
  have hw:=h.c d.C hi
  have e1:ztj (zeu w).p d.C=z8p w.p d.C:=f1
  have e2:z0m (zc (zeu w).consumers d.C)={ zc w.consumers d.C with On:=false,Gone:=true,Out:={ (zc w.consumers d.C).Out with Closed:=true } }:=f2
  simp only[e1,e2]
  obtain ⟨g1,g2,g3,g4,g5⟩:=zdb hw.good
  have hz:=hw.size;have hh:=hw.height;have hp:=h.ph;have hq:=h.pq
  have hqf:(w.p.Queue.filter (z8o d.C)).length≤w.p.Queue.length:=List.length_filter_le _ _
  have el:=z4y (L:=w.p.Links) hi hi
  rw[if_pos rfl] at el
  refine zaeq (i:=d.C) h hd rfl rfl (goodPr_iff.1 (zalw h.pr hi)).1 (by show w.p.Height≤_;omega) h.pt (by show (((w.p.Queue.filter (z8o d.C)).length:Nat):Int)≤_;omega) ?_ fun j hj hji=>⟨zrm hi hj hji _,.of ?_⟩
  ·have hci:=zve (C:=(zeu w).consumers) hi { zc w.consumers d.C with On:=false,Gone:=true,Out:={ (zc w.consumers d.C).Out with Closed:=true } }
   refine ⟨?_,?_,?_,?_,?_,?_,?_,?_,fun k k2=>?_⟩
   ·rw[hci];exact zwk ⟨rfl,g1.2⟩ g2 g3 g4 g5
   ·rw[hci];show (zc w.consumers d.C).Height≤w.deeds+1;omega
   ·rw[hci];exact hw.time
   ·rw[hci];show (((zc w.consumers d.C).Pending.length+(zc w.consumers d.C).Ripes.length:Nat):Int)≤w.deeds+1;omega
   ·rw[hci];exact (congrArg Link.On el).symm
   ·rw[hci];exact (congrArg Link.Gone el).symm
   ·show ∀ s,s∈(zx (zwl w.p.Links d.C) d.C).Out.Said→Pk1 s
    rw[el];exact hw.told
   ·rw[hci];exact hw.said
   ·have k':(zx (zwl w.p.Links d.C) d.C).Gone=false:=k2
    rw[el] at k';cases k'
  ·show zx (zwl w.p.Links d.C) j=_
   rw[z4y hi hj,if_neg hji]
 ·rw[if_pos (by exact h0)];exact zo0 h hd
theorem zan5 {w:Wld} (h:OkW w) (hd:w.deeds < 600) (d:Deed):OkW (zii (zeu w) d).1:=by
 have hm:=zo0 h hd
 unfold zii
 by_cases c1:d.Kind < 4∨12 < d.Kind
 ·rw[if_pos c1];exact hm
 rw[if_neg c1]
 by_cases c2:d.C < 0∨2≤d.C
 ·rw[if_pos c2];exact hm
 rw[if_neg c2]
 have hi:0≤d.C∧d.C < 2:=by omega
 by_cases c3:d.Kind≠4∧(zeu w).consumers.On.get d.C=false
 ·rw[if_pos c3];exact hm
 rw[if_neg c3]
 by_cases c4:d.Kind=4
 ·rw[if_pos c4];exact zavk h hd _
 rw[if_neg c4]
 have ho:(zc w.consumers d.C).On=true:=by
  cases e:(zc w.consumers d.C).On with
  | true=>rfl
  | false=>exact absurd ⟨c4,e⟩ c3
 repeat' split
 ·exact zan1 h hd hi ho
 ·exact zavj h hd hi ho _
 ·exact zan3 h hd hi ho
 ·exact zasb h hd hi ho
 ·exact za1f h hd hi ho _
 ·exact zar6 h hd hi ho _ _
 ·exact hm
theorem za73 {w:Wld} (h:OkW w) (hd:w.deeds < 600) (d:Deed):OkW (actW (zeu w) d).1:=by
 have hm:=zo0 h hd
 unfold actW
 repeat' split
 ·exact zalz hm _ _ _
 ·exact zafv hm _ _ _
 ·exact zar2 hm _
 ·exact za1c hm _ _
 ·exact za1d hm _
 ·exact zan4 h hd
 ·exact zan5 h hd d
theorem zbh8 {w:Wld} (h:OkW w) (d:Deed):OkW (doW w d).1:=by
 unfold doW
 split
 ·exact h
 ·rename_i hd;exact za73 h (by omega) d
theorem za74:z2s=some newW:=by
 rw[z2s,z6d,Tr.rb zaro,Tr.rl];rfl
theorem za1g (w:Wld):ze1 w=some (w.clock,w):=by rw[ze1,zm8,Tr.rl]
theorem z3u {l:List Power} (h:l.length*16≤140737488355328):zc6 l=some l:=by
 rw[zc6,zxq,Tr.rg (by rw[zo];omega),Tr.rl]
theorem z93 {l:List Int} (h:l.length*8≤140737488355328):zdl l=some l:=by
 rw[zdl,zu6,Tr.rg (by rw[zer];omega),Tr.rl]
theorem zal2 {p:Packet} (h1:p.Set.length*16≤140737488355328) (h2:p.Done.length*8≤140737488355328):zhk p=some p:=by
 rw[zhk,zxr,z3u h1,z93 h2,Tr.rg (by rfl),Tr.rg (by rfl),Tr.rl];rfl
theorem zahe {l:zbs} (h1:l.Said.length*16≤140737488355328) (h2:l.Due.length*8≤140737488355328):zch l=some l:=by
 rw[zch,zu7,z93 h2,Tr.rg (by show (0+l.Said.length)*16≤_;omega),Tr.rg (by rfl),Tr.rl];rfl
theorem zal3 {w:Wld} (hf:FitPr 140737488351232 w.p):za9 w=some (w.p,w):=by
 have hw:=hf.waits;have hs:=hf.set;have hq:=hf.queue
 have turn:∀ (c:Nat),c < 2→∀ z,(zbf (c:Int) w z w.p).run=some (.inl (((c+1:Nat):Int),w,z,w.p)):=by
  intro c hc z
  have e1:=z3u (l:=w.p.Links.Told.get c) (by have:=hf.told c;omega)
  have e2:=z93 (l:=w.p.Links.Done.get c) (by have:=hf.done c;omega)
  have e3:=zahe (l:=(zx w.p.Links c).Out) (by have:=hf.said c;show (w.p.Links.Said.get c).length*16≤_;omega) (by have:=hf.due c;show (w.p.Links.Due.get c).length*8≤_;omega)
  simp only[zbf]
  rw[Tr.rt (by simp;omega),Tr.rg ⟨by omega,by omega⟩,e1,e2,e3,Tr.rg (by rfl),Tr.rg (by rfl),Tr.rg (by rfl),Tr.rl,zl (by omega)]
  simp only[yy2]
  have hb:0≤(c:Int)∧(c:Int) < 2:=by omega
  unfold zx
  simp only[zqd _ hb]
 have l1:∀ z,zfw 0 w z w.p=some (w,z,w.p):=by
  intro z
  rw[zfw,zab (s':=(((1:Nat):Int),w,z,w.p)) (turn 0 (by omega) z),zab (s':=(((2:Nat):Int),w,z,w.p)) (turn 1 (by omega) z),zba (by
   show (zbf 2 w z w.p).run=_
   simp only[zbf]
   rw[Tr.rf (by simp),Tr.rl])]
 have l2:∀ z q,zfx w.p.Queue w.p.Queue.length 0 w z q []=some (w,z,q,w.p.Queue):=by
  intro z q
  rw[zfx]
  have:=zb7 (F:=fun s:(List Asked)×Int×Int×Wld×za×za×(List Asked)=>(zcb s.1 s.2.1 s.2.2.1 s.2.2.2.1 s.2.2.2.2.1 s.2.2.2.2.2.1 s.2.2.2.2.2.2).run) w.p.Queue.length (fun i t=>(w.p.Queue,(w.p.Queue.length:Int),(i:Int),w,z,q,t)) (fun i t=>t=w.p.Queue.take i) (fun _ _=>(w,z,q,w.p.Queue)) ?_ ?_ 0 [] (Nat.zero_le _) rfl
  ·exact this
  ·rintro t rfl
   simp only[zcb];rw[Tr.rf (by simp),Tr.rl,List.take_length]
  ·rintro i t hi ht
   obtain ⟨p1,p2⟩:=hf.ps _ (zbk (l:=w.p.Queue) (k:=i) hi default)
   have htl:t.length≤i:=by rw[ht,List.length_take];omega
   refine .inl ⟨t++[w.p.Queue.getD i default],?_,by rw[ht,zld hi default],by trivial⟩
   simp only[zcb,yy4]
   rw[Tr.rt (by simpa using hi),Tr.rg ⟨by omega,by rw[zef];omega⟩,zal2 (by omega) (by omega),Tr.rg (by rfl),Tr.rg (by simp only[zef,yy5];omega),Tr.rl,zl (by omega)]
   rfl
 rw[za9,zjk,Tr.rg (by rw[z2];omega),Tr.rb (z3u (by omega)),Tr.rb (v:=(w,default,w.p)) (by exact l1 default)]
 simp only[]
 rw[Tr.rb (v:=(w,default,w.p,w.p.Queue)) (by exact l2 default w.p),Tr.rl]
theorem zal4 {w:Wld} {i:Int} (hf:(0≤i∧i < 2)→FitC 140737488351232 (zc w.consumers i)):z7 i w=some (if 0≤i∧i < 2 then zc w.consumers i else default,w):=by
 rw[z7,zjl]
 by_cases hi:0≤i∧i < 2
 ·have hf:=hf hi
  have e1:=z3u (l:=w.consumers.Set.get i) (by have:(w.consumers.Set.get i).length*16≤_:=hf.set;omega)
  have e3:=zahe (l:=(zc w.consumers i).Out) (by have:=hf.said;omega) (by have:=hf.due;omega)
  have hr:(w.consumers.Ripes.get i).length*16≤140737488351232:=hf.ripes
  have hp:(w.consumers.Pending.get i).length*80≤140737488351232:=hf.pend
  have l1:∀ z q,zfy (w.consumers.Pending.get i) (w.consumers.Pending.get i).length 0 w z q []=some (w,z,q,w.consumers.Pending.get i):=by
   intro z q
   have hps:∀ p,p∈w.consumers.Pending.get i→p.Set.length*16≤140737488351232∧p.Done.length*8≤140737488351232:=hf.ps
   generalize w.consumers.Pending.get i=l at *
   rw[zfy]
   have:=zb7 (F:=fun s:(List Packet)×Int×Int×Wld×zb×zb×(List Packet)=>(zcc s.1 s.2.1 s.2.2.1 s.2.2.2.1 s.2.2.2.2.1 s.2.2.2.2.2.1 s.2.2.2.2.2.2).run) l.length (fun i t=>(l,(l.length:Int),(i:Int),w,z,q,t)) (fun i t=>t=l.take i) (fun _ _=>(w,z,q,l)) ?_ ?_ 0 [] (Nat.zero_le _) rfl
   ·exact this
   ·rintro t rfl
    simp only[zcc];rw[Tr.rf (by simp),Tr.rl,List.take_length]
   ·rintro k t hk ht
    obtain ⟨p1,p2⟩:=hps _ (zbk (l:=l) (k:=k) hk default)
    have htl:t.length≤k:=by rw[ht,List.length_take];omega
    refine .inl ⟨t++[l.getD k default],?_,by rw[ht,zld hk default],by trivial⟩
    simp only[zcc,yy4]
    rw[Tr.rt (by simpa using hk),Tr.rg ⟨by omega,by rw[zan];omega⟩,Tr.rb (zal2 (by omega) (by omega)),Tr.rg (by simp only[zan,yy5];omega),Tr.rl,zl (by omega)]
  rw[if_pos hi,Tr.rf (by simp;omega),Tr.rg hi,e1,e3,Tr.rg (by rfl),Tr.rg (by rfl),Tr.rg (by rw[zdm];omega)]
  simp only[yy2]
  rw[Tr.rb (v:=(w,default,zc w.consumers i,w.consumers.Pending.get i)) (by exact l1 default _),Tr.rl]
  rfl
 ·rw[if_neg hi,Tr.rt (by simp;omega),Tr.rl]
theorem zahf {w:Wld} (h:OkW w) {i:Int} (hi:0≤i∧i < 2) (b:Bool):(zafu (ze2 w i b)).size≤71:=by
  have hw:=h.c i hi
  unfold zafu
  split
  · rename_i hg
    have hmem:(ze2 w i b).Said.getD (ze2 w i b).Got.toNat .empty∈(ze2 w i b).Said:=by
      by_cases h0:(ze2 w i b).Got.toNat < (ze2 w i b).Said.length
      · exact zbk h0 _
      · exact absurd hg (by
          cases b with
          | true =>
                    have:0≤(zc w.consumers i).Out.Got:=(zdb hw.good).2.1.2.2.1
                    show ¬ (zc w.consumers i).Out.Got < _
                    have h0':¬ (zc w.consumers i).Out.Got.toNat < (zc w.consumers i).Out.Said.length:=h0
                    show ¬ (zc w.consumers i).Out.Got < (((zc w.consumers i).Out.Said.length:Nat):Int)
                    omega
          | false =>
                     have:0≤(zx w.p.Links i).Out.Got:=(h.p.lk hi).line.2.2.1
                     have h0':¬ (zx w.p.Links i).Out.Got.toNat < (zx w.p.Links i).Out.Said.length:=h0
                     show ¬ (zx w.p.Links i).Out.Got < (((zx w.p.Links i).Out.Said.length:Nat):Int)
                     omega)
    generalize (ze2 w i b).Said.getD (ze2 w i b).Got.toNat .empty=s at hmem
    have:∃ q,zgt q=0∧s=txt (z6e q):=by
      cases b with
      | true=>obtain ⟨q,q1,_,q2⟩:=hw.said s hmem;exact ⟨q,q1,q2⟩
      | false=>obtain ⟨q,q1,_,q2⟩:=hw.told s hmem;exact ⟨q,q1,q2⟩
    obtain ⟨q,q1,rfl⟩:=this
    have:=zaeh q1
    rw[zb4,zad0];omega
  · decide
theorem zavm {n:Nat} (h:n≤1000):zgt (zar0 n)=0:=by
 have hw:i64.wrap (1+(n:Int))=1+n:=zg (by omega) (by omega)
 unfold zgt zar0
 rw[hw]
 simp only[]
 rw[if_neg (by omega),if_neg (by omega),if_neg (by simp),if_neg (by simp[zv]),if_neg (by simp[zad])]
theorem zavn {w:Wld} (h:OkW w) {i:Int} (hi:0≤i∧i < 2) (b f:Bool):ztf (ze2 w i b) f=some (zlu (ze2 w i b) f)∧(zlu (ze2 w i b) f).size≤71:=by
 have hz:=zahf h hi b
 have hg0:0≤(ze2 w i b).Got:=by
  cases b with
  | true=>exact (zdb (h.c i hi).good).2.1.2.2.1
  | false=>exact (h.p.lk hi).line.2.2.1
 have hE:∀ n:Nat,zb9 (⟨3,1,0,i64.wrap (1+(n:Int)),[],[]⟩:Packet)=some (zes (zar0 n)):=fun n=>zady (by simp) (by simp)
 generalize ze2 w i b=l at *
 have hsz:(zlu l f).size≤71:=by
  unfold zlu
  cases f with
  | true=>rw[if_pos rfl,zrf (zavm (by omega)),zb4,zad0];simp[zar0]
  | false=>rw[if_neg (by simp)];exact hz
 refine ⟨?_,hsz⟩
 rw[ztf,z2u]
 unfold zlu
 unfold zafu at hz ⊢
 by_cases hl:l.Got < ((l.Said.length:Nat):Int)
 ·rw[if_pos hl,Tr.rt (by simpa using hl),Tr.rg ⟨hg0,by show l.Got < ((l.Said.length:Nat):Int);exact hl⟩]
  cases f with
  | true=>rw[Tr.rf (by rfl),if_pos rfl,Tr.rb (hE _),Tr.rl]
  | false=>rw[Tr.rt (by rfl),if_neg (by simp),Tr.rl]
 ·rw[if_neg hl,Tr.rf (by simpa using hl)]
  cases f with
  | true=>rw[Tr.rf (by rfl),if_pos rfl,Tr.rb (hE _),Tr.rl]
  | false=>rw[Tr.rt (by rfl),if_neg (by simp),Tr.rl]
theorem zasc {w:Wld} (hf:FitPr 140737488351232 w.p):zjm w=some ((z0o w).2,(z0o w).1):=by
 rw[zjm,zkj,zars hf,Tr.rg (by rfl)]
 simp only[yy2]
 unfold z0o
 by_cases h0:(zpb w.p w.clock).2.2=0
 ·rw[Tr.rf (by simpa using h0),if_neg (by simpa using h0)]
  have turn:∀ (c:Nat),c < 2→∀ (u:Wld) l z (p:za),(zbo l (c:Int) u z p).run=some (.inl (l,((c+1:Nat):Int),{ u with heads:={ u.heads with PHeight:=u.heads.PHeight.set c p.Height,PTime:=u.heads.PTime.set c p.Time,PSaid:=u.heads.PSaid.set c (((p.Links.Said.get c).length:Nat):Int),PGot:=u.heads.PGot.set c (u.consumers.Got.get c) } },z,p)):=by
   intro c hc u l z p
   simp only[zbo]
   rw[Tr.rt (by simp;omega),Tr.rg ⟨by omega,by omega⟩,Tr.rg ⟨by omega,by omega⟩,Tr.rg ⟨by omega,by omega⟩,Tr.rg ⟨by omega,by omega⟩,Tr.rl,zl (by omega)]
  have loop:∀ l z,zgo l 0 { w with p:=(zpb w.p w.clock).1 } z (zpb w.p w.clock).1=some (l,{ w with p:=(zpb w.p w.clock).1,heads:=zavd w.heads (zpb w.p w.clock).1 w.consumers },z):=by
   intro l z
   generalize (zpb w.p w.clock).1=p
   rw[zgo,zab (turn 0 (by omega) _ _ _ _),zab (turn 1 (by omega) _ _ _ _),zba (by
    show (zbo _ 2 _ _ _).run=_
    simp only[zbo]
    rw[Tr.rf (by simp),Tr.rl])]
   rfl
  rw[Tr.rb (v:=((zpb w.p w.clock).2.1,{ w with p:=(zpb w.p w.clock).1,heads:=zavd w.heads (zpb w.p w.clock).1 w.consumers },⟨0,0⟩)) (by exact loop _ _),Tr.rl]
 ·rw[Tr.rt (by simpa using h0),if_pos h0,Tr.rl];rfl
theorem zaer {C:zev} {i:Int} (hi:0≤i∧i < 2) (l:zbs):({ C with Said:=C.Said.set i l.Said,Due:=C.Due.set i l.Due,Got:=C.Got.set i l.Got,Closed:=C.Closed.set i l.Closed }:zev)=zqh C i { zc C i with Out:=l }:=by
 unfold zqh zc
 simp only[zqd _ hi]
theorem zasd {w:Wld} (h:OkW w) {d:Deed} (hi:0≤d.C∧d.C < 2):zjn d w=some ((ztl w d).2,(ztl w d).1):=by
 rw[zjn,zkk,Tr.rg hi,Tr.rg hi]
 obtain ⟨t1,t2⟩:=zavn h hi d.Back d.Forged
 unfold ztl ztk
 cases hb:d.Back with
 | true =>
  rw[hb] at t1 t2
  have e0:(zc w.consumers d.C).Out=ze2 w d.C true:=rfl
  have e1:w.consumers.Got.get d.C=(ze2 w d.C true).Got:=rfl
  rw[Tr.rt rfl,e0,Tr.rb t1,e1,zagq,Tr.rg (by rfl)]
  simp only[yy2]
  have es:z8s w d.C true=w.p.Links.SSaid.get d.C:=rfl
  rw[← es]
  by_cases h0:(zoy (ze2 w d.C true) (i64.wrap ((ze2 w d.C true).Got+1)) (zlu (ze2 w d.C true) d.Forged) (z8s w d.C true) w.clock).2=0
  ·rw[Tr.rf (by simpa using h0),if_neg (by simpa using h0),Tr.rt rfl,if_pos trivial,zanx h.fit (by omega),Tr.rg (by rfl)]
   simp only[yy2]
   by_cases h1:(zss w.p d.C (zlu (ze2 w d.C true) d.Forged).data.toList).2=0
   ·rw[Tr.rf (by simpa using h1),if_neg (by simpa using h1),Tr.rl,zaer hi]
   ·rw[Tr.rt (by simpa using h1),if_pos h1,Tr.rl];rfl
  ·rw[Tr.rt (by simpa using h0),if_pos h0,Tr.rl];rfl
 | false =>
  rw[hb] at t1 t2
  have e0:(zx w.p.Links d.C).Out=ze2 w d.C false:=rfl
  have e1:w.p.Links.Got.get d.C=(ze2 w d.C false).Got:=rfl
  rw[Tr.rf rfl,e0,Tr.rb t1,e1,zagq,Tr.rg (by rfl)]
  simp only[yy2]
  have es:z8s w d.C false=w.consumers.SSaid.get d.C:=rfl
  rw[← es]
  by_cases h0:(zoy (ze2 w d.C false) (i64.wrap ((ze2 w d.C false).Got+1)) (zlu (ze2 w d.C false) d.Forged) (z8s w d.C false) w.clock).2=0
  ·rw[Tr.rf (by simpa using h0),if_neg (by simpa using h0),Tr.rf rfl,if_neg (by simp),Tr.rb (za7t ((h.c d.C hi).fit h.d1) (by omega))]
   by_cases h1:(z29 (zc w.consumers d.C) (zlu (ze2 w d.C false) d.Forged).data.toList).2=0
   ·rw[Tr.rf (by simpa using h1),if_neg (by simpa using h1),Tr.rl];rfl
   ·rw[Tr.rt (by simpa using h1),if_pos h1,Tr.rl];rfl
  ·rw[Tr.rt (by simpa using h0),if_pos h0,Tr.rl];rfl
theorem zavo {w:Wld} (h:OkW w) {d:Deed} (hi:0≤d.C∧d.C < 2):zkl d w=some ((z6m w d).2,(z6m w d).1):=by
 rw[zkl,zlq,Tr.rg hi,Tr.rg hi]
 have hr:=zajn h.fit (c:=d.C)
 unfold z6m zar1
 cases hb:d.Back with
 | true =>
  rw[Tr.rt rfl,if_pos rfl,Tr.rb (zak1 _ _ _ _)]
  by_cases h0:(zsg (zc w.consumers d.C).Out d.N (w.consumers.STime.get d.C) (w.consumers.SGot.get d.C)).2=0
  ·rw[Tr.rf (by simpa using h0),if_neg (by simpa using h0),hr,Tr.rg (by rfl),Tr.rb zalj,Tr.rl];rfl
  ·rw[Tr.rt (by simpa using h0),if_pos h0,Tr.rl];rfl
 | false =>
  rw[Tr.rf rfl,if_neg (show ¬ (false=true) by simp),Tr.rb (zak1 _ _ _ _)]
  by_cases h0:(zsg (zx w.p.Links d.C).Out d.N (w.p.Links.STime.get d.C) (w.p.Links.SGot.get d.C)).2=0
  ·rw[Tr.rf (by simpa using h0),if_neg (by simpa using h0),hr,Tr.rg (by rfl),Tr.rb zalj,Tr.rl];rfl
  ·rw[Tr.rt (by simpa using h0),if_pos h0,Tr.rl];rfl
theorem zase {w:Wld} (h:OkW w) {d:Deed}:zjo d w=some ((zii w d).2,(zii w d).1):=by
 rw[zjo,zkm]
 unfold zii
 by_cases c1:d.Kind < 4∨12 < d.Kind
 ·rw[if_pos c1,Tr.rt (by simpa using c1),Tr.rl];rfl
 rw[if_neg c1,Tr.rf (by simp;omega)]
 by_cases c2:d.C < 0∨2≤d.C
 ·rw[if_pos c2,Tr.rt (by simpa using c2),Tr.rl];rfl
 have hi:0≤d.C∧d.C < 2:=by omega
 have hw:=h.c d.C hi
 have hfc:=hw.fit h.d1
 rw[if_neg c2,Tr.rf (by simp;omega),Tr.rg hi]
 by_cases c3:d.Kind≠4∧w.consumers.On.get d.C=false
 ·rw[if_pos c3,Tr.rt (by simpa using c3),Tr.rl];rfl
 rw[if_neg c3,Tr.rf (by
  rw[Bool.eq_false_iff];intro k;apply c3;simpa using k)]
 by_cases c4:d.Kind=4
 ·rw[if_pos c4,Tr.rt (by simpa using c4),zalt h.fit,Tr.rg (by rfl)]
  simp only[yy2]
  unfold zaem
  by_cases h0:(zgq w.p d.C).2=0
  ·obtain ⟨f1,_,f3,f4,f5,f6,f7⟩:=z6n h0
   have hs:(zgq w.p d.C).1.Set.length*16≤140737488355328:=by rw[f7];have:=h.fit.set;show w.p.Set.length*16≤_;omega
   rw[Tr.rf (by simpa using h0),if_neg (by simpa using h0),za0u hs,Tr.rg (by rfl),Tr.rg hi,Tr.rl]
   rfl
  ·rw[Tr.rt (by simpa using h0),if_pos h0,Tr.rl];rfl
 rw[if_neg c4,Tr.rf (by simpa using c4)]
 have hsz:=hw.size;have hd1:=h.d1
 by_cases c7:d.Kind=7
 ·have he:z9 (zc w.consumers d.C) w.clock=some (endC w.clock (zc w.consumers d.C)):=zbhv hfc (by omega)
  rw[if_pos c7,Tr.rt (by simpa using c7),he,Tr.rg (by rfl)]
  simp only[yy2]
  unfold z8r
  by_cases h0:(endC w.clock (zc w.consumers d.C)).2=0
  ·rw[Tr.rt (by simpa using h0),Tr.rg hi,Tr.rg hi,Tr.rg (by omega),Tr.rf (by simpa using h0),if_neg (by simpa using h0),Tr.rl];rfl
  ·rw[Tr.rf (by simpa using h0),Tr.rt (by simpa using h0),if_pos h0,Tr.rl];rfl
 rw[if_neg c7,Tr.rf (by simpa using c7)]
 by_cases c8:d.Kind=8
 ·rw[if_pos c8,Tr.rt (by simpa using c8)]
  unfold zaly
  cases hb:d.Back with
  | true =>
   rw[Tr.rt rfl,if_pos rfl,Tr.rg hi,Tr.rg (by omega),Tr.rg hi,Tr.rf rfl,Tr.rl,z3c hi];rfl
  | false =>
   rw[Tr.rf rfl,if_neg (show ¬ (false=true) by simp),Tr.rg hi,Tr.rg (by omega),Tr.rf rfl,Tr.rl];rfl
 rw[if_neg c8,Tr.rf (by simpa using c8)]
 by_cases c9:d.Kind=9
 ·rw[if_pos c9,Tr.rt (by simpa using c9),Tr.rb (zasd h hi),Tr.rl]
 rw[if_neg c9,Tr.rf (by simpa using c9)]
 by_cases c10:d.Kind=10
 ·rw[if_pos c10,Tr.rt (by simpa using c10),Tr.rb (zavo h hi),Tr.rl]
 rw[if_neg c10,Tr.rf (by simpa using c10)]
 by_cases c11:d.Kind=11
 ·rw[if_pos c11,Tr.rt (by simpa using c11),za7u hfc,Tr.rg (by rfl)]
  simp only[yy2]
  unfold putW
  by_cases h0:(z6j (zc w.consumers d.C) d.V w.clock).2=0
  ·rw[Tr.rf (by simpa using h0),if_neg (by simpa using h0),Tr.rl]
  ·rw[Tr.rt (by simpa using h0),if_pos h0,Tr.rl];rfl
 rw[if_neg c11,Tr.rf (by simpa using c11)]
 by_cases c12:d.Kind=12
 ·rw[if_pos c12,Tr.rt (by simpa using c12),zaut hfc,Tr.rg (by rfl)]
  simp only[yy2]
  unfold putW
  by_cases h0:(zqb (zc w.consumers d.C) d.V d.N w.clock).2=0
  ·rw[Tr.rf (by simpa using h0),if_neg (by simpa using h0),Tr.rl]
  ·rw[Tr.rt (by simpa using h0),if_pos h0,Tr.rl];rfl
 rw[if_neg c12,Tr.rf (by simpa using c12),Tr.rf rfl,Tr.rl,z3c hi]
theorem zbpa {w:Wld} (h:OkW w) {d:Deed} (hn:d.N≤9223372036854775807):zar d w=some ((doW w d).2,(doW w d).1):=by
 rw[zar,zsd]
 unfold doW
 by_cases c0:600≤w.deeds
 ·rw[if_pos c0,Tr.rt (by simpa using c0),Tr.rl];rfl
 have hd:w.deeds < 600:=by omega
 have hd0:=h.d0
 have hw:i64.wrap (w.deeds+1)=w.deeds+1:=zg (by omega) (by omega)
 have hm:=zo0 h hd
 rw[if_neg c0,Tr.rf (by simpa using c0),hw]
 have e0:({ w with deeds:=w.deeds+1 }:Wld)=zeu w:=rfl
 unfold actW
 by_cases c1:d.Kind=1
 ·rw[if_pos c1,Tr.rt (by simpa using c1),Tr.rb (zaed h.fit hn)]
  unfold z07
  by_cases h0:(zff w.p d.D d.V d.N).2=0
  ·rw[Tr.rf (by simpa using h0),if_neg (by show ¬ (zff w.p d.D d.V d.N).2≠0;simpa using h0),Tr.rl];rfl
  ·rw[Tr.rt (by simpa using h0),if_pos (by exact h0),Tr.rl];rfl
 rw[if_neg c1,Tr.rf (by simpa using c1)]
 by_cases c2:d.Kind=2
 ·rw[if_pos c2,Tr.rt (by simpa using c2),z90 h.fit hn,Tr.rg (by rfl)]
  simp only[yy2]
  unfold z07
  by_cases h0:(zcu w.p d.D d.V d.N w.clock).2=0
  ·rw[Tr.rf (by simpa using h0),if_neg (by show ¬ (zcu w.p d.D d.V d.N w.clock).2≠0;simpa using h0),Tr.rl];rfl
  ·rw[Tr.rt (by simpa using h0),if_pos (by exact h0),Tr.rl];rfl
 rw[if_neg c2,Tr.rf (by simpa using c2)]
 by_cases c3:d.Kind=3
 ·rw[if_pos c3,Tr.rt (by simpa using c3),Tr.rb zaub]
  unfold z07
  by_cases h0:(zda w.p.Stake d.V 1).2=0
  ·rw[Tr.rf (by simpa using h0),if_neg (by show ¬ (zda w.p.Stake d.V 1).2≠0;simpa using h0),Tr.rl];rfl
  ·rw[Tr.rt (by simpa using h0),if_pos (by exact h0),Tr.rl];rfl
 rw[if_neg c3,Tr.rf (by simpa using c3)]
 by_cases c13:d.Kind=13
 ·rw[if_pos c13,Tr.rt (by simpa using c13),Tr.rb (zaeg h.fit)]
  unfold z07
  by_cases h0:(zyu w.p d.V d.N).2=0
  ·rw[Tr.rf (by simpa using h0),if_neg (by show ¬ (zyu w.p d.V d.N).2≠0;simpa using h0),Tr.rl];rfl
  ·rw[Tr.rt (by simpa using h0),if_pos (by exact h0),Tr.rl];rfl
 rw[if_neg c13,Tr.rf (by simpa using c13)]
 by_cases c5:d.Kind=5
 ·rw[if_pos c5,Tr.rt (by simpa using c5)]
  have t0:=h.t0;have t1:=h.t1
  have h1:i64.wrap (1099511627736 - w.clock)=1099511627736 - w.clock:=zg (by omega) (by omega)
  rw[h1]
  unfold zave
  by_cases h0:d.N < 1∨1099511627736 - w.clock < d.N
  ·rw[Tr.rt (by simpa using h0),if_pos (by exact h0),Tr.rl];rfl
  ·have h2:i64.wrap (w.clock+d.N)=w.clock+d.N:=zg (by omega) (by omega)
   rw[Tr.rf (by simp;omega),if_neg (by exact h0),Tr.rl,h2];rfl
 rw[if_neg c5,Tr.rf (by simpa using c5)]
 by_cases c6:d.Kind=6
 ·rw[if_pos c6,Tr.rt (by simpa using c6),e0,Tr.rb (zasc hm.fit),Tr.rl]
 rw[if_neg c6,Tr.rf (by simpa using c6),e0,Tr.rb (zase hm),Tr.rl]
def stk7:Stake:=⟨⟨⟨99300,100000,100000,100000⟩,700,0,0⟩,{ zbhs with Tokens:=⟨700,0,0,0,0,0⟩,Shares:=⟨700,0,0,0,0,0⟩ },⟨⟨700,0,0,0,0,0⟩,⟨0,0,0,0,0,0⟩,⟨0,0,0,0,0,0⟩,⟨0,0,0,0,0,0⟩⟩,[],1⟩
def p7:za:={ zarn with Stake:=stk7 }
def p8:za:=⟨1,5,stk7,[⟨0,7⟩],default,zajh (newM 0 0) (allP []) 5,[]⟩
def w1:Wld:=⟨0,p7,default,default,1⟩
def w2:Wld:=⟨5,p7,default,default,2⟩
def w3:Wld:=⟨5,p8,default,zavd default p8 default,3⟩
structure Alike (w w':Wld):Prop where
 p:w'.p=w.p
 c:w'.consumers=w.consumers
 t:w'.clock=w.clock
theorem Alike.refl (w:Wld):Alike w w:=⟨rfl,rfl,rfl⟩
theorem Alike.more (w:Wld):Alike w (zeu w):=⟨rfl,rfl,rfl⟩
def zks (w:Wld):zs2:=⟨w.clock,w.deeds,w.p,w.consumers,⟨w.heads.PHeight,w.heads.PTime,w.heads.PSaid,w.heads.PGot⟩,⟨w.heads.CHeight,w.heads.CTime,w.heads.CSaid,w.heads.CGot⟩⟩
theorem zmo (e:Int):zaa e=some ⟨e,0⟩:=by rw[zaa,zse,Tr.rl]
theorem zaes (e:Int):zdq e=some ⟨e,0⟩:=by rw[zdq,zkn,Tr.rl]
theorem zasf:zu9=some (zks newW):=by rw[zu9,zxt,Tr.rb zaji,Tr.rl];rfl
theorem zajr {p:za} {d v n:Int} (h:(zff p d v n).2≠0):(zff p d v n).1=p:=by
 unfold zff at h ⊢
 split
 ·rename_i c;rw[if_pos c] at h
  split
  ·rfl
  ·rename_i k;rw[if_neg k] at h;exact absurd rfl h
 ·rfl
theorem zaet {p:za} {d v n t:Int} (h:(zcu p d v n t).2≠0):(zcu p d v n t).1=p:=by
 unfold zcu at h ⊢
 split
 ·rename_i c;rw[if_pos c] at h
  split
  ·rfl
  ·rename_i k;rw[if_neg k] at h;exact absurd rfl h
 ·rfl
theorem zavp {p:za} {v n:Int} (h:(zyu p v n).2≠0):(zyu p v n).1=p:=by
 unfold zyu at h ⊢
 split
 ·rfl
 ·rename_i a;rw[if_neg a] at h
  split
  ·rename_i b;rw[if_pos b] at h
   split
   ·rename_i c;rw[if_pos c] at h
    split
    ·rfl
    ·rename_i k;rw[if_neg k] at h;exact absurd rfl h
   ·rfl
  ·rfl
theorem zavq {s:Stake} {v n:Int} (h:(zda s v n).2≠0):(zda s v n).1=s:=by
 unfold zda at h ⊢
 split
 ·rfl
 ·rename_i a;rw[if_neg a] at h
  split
  ·rfl
  ·rename_i a;rw[if_neg a] at h
   split
   ·rfl
   ·rename_i a;rw[if_neg a] at h
    split
    ·rfl
    ·rename_i a;rw[if_neg a] at h;exact absurd rfl h
theorem za1h {p:za} {t:Int} (h:(zpb p t).2.2≠0):(zpb p t).1=p:=by
 by_cases c:zau p=true∧p.Time≤t∧t≤1099511627776
 ·exact absurd (zavb c) h
 ·rw[zbh2 c]
theorem za75 {c:zb} {t:Int} (h:(endC t c).2≠0):(endC t c).1=c:=by
 unfold endC at h ⊢
 split
 ·rfl
 ·rename_i a;rw[if_neg a] at h
  split
  ·rfl
  ·rename_i a;rw[if_neg a] at h
   split
   ·rfl
   ·rename_i a;rw[if_neg a] at h;exact absurd rfl h
theorem za1i {c:zb} {v t:Int} (h:(z6j c v t).2≠0):(z6j c v t).1=c:=by
 unfold z6j at h ⊢
 split
 ·rfl
 ·rename_i a;rw[if_neg a] at h
  split
  ·rfl
  ·rename_i a;rw[if_neg a] at h
   split
   ·rfl
   ·rename_i a;rw[if_neg a] at h
    split
    ·rfl
    ·rename_i a;rw[if_neg a] at h;exact absurd rfl h
theorem zasg {c:zb} {v n t:Int} (h:(zqb c v n t).2≠0):(zqb c v n t).1=c:=by
 unfold zqb at h ⊢
 split
 ·rfl
 ·rename_i a;rw[if_neg a] at h
  split
  ·rfl
  ·rename_i a;rw[if_neg a] at h
   split
   ·rfl
   ·rename_i a;rw[if_neg a] at h;exact zabx h
theorem zapz {w:Wld} (h:OkW w) {i:Int} (hi:0≤i∧i < 2) (b:Bool):0≤(ze2 w i b).Got∧(ze2 w i b).Got≤400∧(ze2 w i b).Due.length≤400:=by
 have key:∀ {l:zbs},zeg l→0≤l.Got∧l.Got≤400∧l.Due.length≤400:=by
  intro l g
  have a1:=g.1;have a2:=g.2.1;have a3:=g.2.2.1;have a4:=g.2.2.2.1
  omega
 cases b with
 | true=>exact key (zdb (h.c i hi).good).2.1
 | false=>exact key (h.p.lk hi).line
theorem zavr {w:Wld} (h:OkW w) {d:Deed} (hi:0≤d.C∧d.C < 2):zlr d (zks w)=some ((ztl w d).2,zks (ztl w d).1):=by
 obtain ⟨g0,g1,g2⟩:=zapz h hi d.Back
 have t2:=(zavn h hi d.Back d.Forged).2
 have hz:=zahf h hi d.Back
 have hfc:=(h.c d.C hi).fit h.d1
 have hw:i64.wrap ((ze2 w d.C d.Back).Got+1)=(ze2 w d.C d.Back).Got+1:=zg (by omega) (by omega)
 have j1:zic d.C d.C ((zks w).C.SSaid.get d.C) d.Back (zks w) d ⟨0,0⟩ (zx (zks w).P.Links d.C).Out=some (d.C,d.C,z8s w d.C d.Back,zks w,d,⟨0,0⟩,ze2 w d.C d.Back):=by
  rw[zic,zjp]
  cases d.Back with
  | true=>rw[Tr.rt rfl,Tr.rl];rfl
  | false=>rw[Tr.rf rfl,Tr.rl];rfl
 have j2:zid d.C d.C (z8s w d.C d.Back) (⟨#[]⟩:ByteArray) (decide ((ze2 w d.C d.Back).Got < (((ze2 w d.C d.Back).Said.length:Nat):Int))) (zks w) d ⟨0,0⟩ (ze2 w d.C d.Back)=some (d.C,d.C,z8s w d.C d.Back,zafu (ze2 w d.C d.Back),zks w,d,⟨0,0⟩,ze2 w d.C d.Back):=by
  generalize ze2 w d.C d.Back=l at *
  rw[zid,zjq]
  unfold zafu
  by_cases c:l.Got < ((l.Said.length:Nat):Int)
  ·rw[Tr.rt (decide_eq_true c),Tr.rg ⟨g0,c⟩,Tr.rl,if_pos c]
  ·rw[Tr.rf (decide_eq_false c),Tr.rl,if_neg c]
 have j3:zie d.C d.C (z8s w d.C d.Back) (zafu (ze2 w d.C d.Back)) d.Forged (zks w) d ⟨0,0⟩ (ze2 w d.C d.Back)=some (d.C,d.C,z8s w d.C d.Back,zlu (ze2 w d.C d.Back) d.Forged,zks w,d,⟨0,0⟩,ze2 w d.C d.Back):=by
  have hE:za8 (⟨3,1,0,i64.wrap ((((zafu (ze2 w d.C d.Back)).size:Nat):Int)+1),[],[]⟩:Packet)=some (zes (zar0 (zafu (ze2 w d.C d.Back)).size)):=by
   rw[Int.add_comm];exact z21 (by simp) (by simp)
  rw[zie,zjr]
  unfold zlu
  cases d.Forged with
  | true=>rw[Tr.rt rfl,Tr.rb hE,Tr.rl];rfl
  | false=>rw[Tr.rf rfl,Tr.rl];rfl
 rw[zlr,zm9,Tr.rg hi,Tr.rg hi,Tr.rb j1,Tr.rb j2,Tr.rb j3]
 simp only[]
 have hD:zam (ze2 w d.C d.Back) (i64.wrap ((ze2 w d.C d.Back).Got+1)) (zlu (ze2 w d.C d.Back) d.Forged) (z8s w d.C d.Back) (zks w).Clock=some (ztk w d):=by
  refine (zaix _ _ _ (by omega) ?_).trans rfl
  rw[hw];unfold i6;omega
 rw[hD,Tr.rg (by rfl)]
 simp only[yy2]
 unfold ztl
 by_cases h0:(ztk w d).2=0
 ·rw[Tr.rf (by simpa using h0),if_neg (by simpa using h0)]
  cases hb:d.Back with
  | true =>
   rw[hb] at t2
   rw[Tr.rt rfl,if_pos rfl]
   have hh:zcl (zks w).P d.C (zlu (ze2 w d.C true) d.Forged)=some _:=zafs (p:=w.p) h.fit (by omega)
   rw[hh,Tr.rg (by rfl)]
   simp only[yy2]
   by_cases h1:(zss w.p d.C (zlu (ze2 w d.C true) d.Forged).data.toList).2=0
   ·rw[Tr.rf (by simpa using h1),if_neg (by simpa using h1),Tr.rl,zaer hi];rfl
   ·rw[Tr.rt (by simpa using h1),if_pos h1,Tr.rb (zaes _),Tr.rl];rfl
  | false =>
   rw[hb] at t2
   rw[Tr.rf rfl,if_neg (by simp)]
   have hh:zia (zc (zks w).C d.C) (zlu (ze2 w d.C false) d.Forged)=some _:=zarh (c:=zc w.consumers d.C) hfc (by omega)
   rw[Tr.rb hh]
   by_cases h1:(z29 (zc w.consumers d.C) (zlu (ze2 w d.C false) d.Forged).data.toList).2=0
   ·rw[Tr.rf (by simpa using h1),if_neg (by simpa using h1),Tr.rl];rfl
   ·rw[Tr.rt (by simpa using h1),if_pos h1,Tr.rb (zaes _),Tr.rl];rfl
 ·rw[Tr.rt (by simpa using h0),if_pos h0,Tr.rb (zaes _),Tr.rl];rfl
theorem zan6 {w:Wld} (x:List Int) (r:Reply):zjz x 0 (zks w) r=some (x,zks { w with heads:=zavd w.heads w.p w.consumers },r):=by
 have turn:∀ (c:Nat),c < 2→∀ (u:zs2),(zfe x (c:Int) u r).run=some (.inl (x,((c+1:Nat):Int),{ u with HeadP:=⟨u.HeadP.Height.set c u.P.Height,u.HeadP.Time.set c u.P.Time,u.HeadP.Said.set c (((u.P.Links.Said.get c).length:Nat):Int),u.HeadP.Got.set c (u.C.Got.get c)⟩ },r)):=by
  intro c hc u
  have hc':0≤(c:Int)∧(c:Int) < 2:=by omega
  simp only[zfe]
  rw[Tr.rt (by simp;omega),Tr.rg hc',Tr.rg hc',Tr.rg hc',Tr.rl,zl (by omega)]
 rw[zjz,zab (turn 0 (by omega) _),zab (turn 1 (by omega) _),zba (by
  show (zfe _ 2 _ _).run=_
  simp only[zfe]
  rw[Tr.rf (by simp),Tr.rl])]
 rfl
theorem zavs {w:Wld} (h:OkW w) {d:Deed} (hi:0≤d.C∧d.C < 2):zov 0 (d.Kind==4) (zks w) d ⟨0,0⟩=some (if d.Kind=4 then .inl (zks (zaem w d.C).1,(zaem w d.C).2) else .inr (0,zks w,d,⟨0,0⟩)):=by
 rw[zov,zp4]
 by_cases c4:d.Kind=4
 ·have hh:zdk (zks w).P d.C=some (zgq w.p d.C):=zaei (p:=w.p) h.fit
  rw[if_pos c4,Tr.rt (by simpa using c4),hh,Tr.rg (by rfl)]
  simp only[yy2]
  unfold zaem
  by_cases h0:(zgq w.p d.C).2=0
  ·obtain ⟨f1,_,f3,f4,f5,f6,f7⟩:=z6n h0
   have hs:(zgq w.p d.C).1.Set.length*16≤140737488355328:=by rw[f7];have:=h.fit.set;show w.p.Set.length*16≤_;omega
   rw[Tr.rf (by simpa using h0),if_neg (by simpa using h0),zanm hs,Tr.rg (by rfl),Tr.rg hi,Tr.rg hi,Tr.rg hi,Tr.rl]
   rfl
  ·rw[Tr.rt (by simpa using h0),if_pos h0,Tr.rb (zmo _),Tr.rl];rfl
 ·rw[if_neg c4,Tr.rf (by simpa using c4),Tr.rl]
theorem zavt {w:Wld} (h:OkW w) {d:Deed} (hi:0≤d.C∧d.C < 2) (hk:5≤d.Kind∧d.Kind≤12) (hk5:d.Kind≠5∧d.Kind≠6) (hon:w.consumers.On.get d.C=true) :
  ∃ r,zow 0 d.C d.C d.Kind (d.Kind==7) (zks w) d ⟨0,0⟩=some r∧((∃ e,r=.inl (e,zks (zii w d).1,⟨0,0⟩)∧(zii w d).2=⟨e,0⟩)∨r=.inr (zks (zii w d).1,(zii w d).2)):=by
 have hcw:=h.c d.C hi
 have hfc:=hcw.fit h.d1
 have hsz:=hcw.size
 have hd1:=h.d1
 rw[zow,zp5]
 unfold zii
 rw[if_neg (by omega),if_neg (by omega),if_neg (by rintro ⟨_,k⟩;rw[hon] at k;cases k),if_neg (by omega)]
 by_cases c7:d.Kind=7
 ·have he:zag (zc (zks w).C d.C) (zks w).Clock=some (endC w.clock (zc w.consumers d.C)):=zaus (c:=zc w.consumers d.C) hfc (by omega)
  rw[if_pos c7,Tr.rt (by simpa using c7),he,Tr.rg (by rfl)]
  simp only[yy2]
  unfold z8r
  by_cases h0:(endC w.clock (zc w.consumers d.C)).2=0
  ·rw[Tr.rt (by simpa using h0),Tr.rg hi,Tr.rl,if_neg (by simpa using h0)]
   refine ⟨_,rfl,.inl ⟨(endC w.clock (zc w.consumers d.C)).2,?_,by rw[h0]⟩⟩
   unfold zks zbh4
   simp only[za6 _ _ hi hi,if_true]
  ·rw[Tr.rf (by simpa using h0),Tr.rl,if_pos h0]
   refine ⟨_,rfl,.inl ⟨_,?_,rfl⟩⟩
   rw[za75 h0]
   show Sum.inl (_,({ zks w with C:=zqh w.consumers d.C (zc w.consumers d.C) }:zs2),_)=_
   rw[z3c hi];rfl
 rw[if_neg c7,Tr.rf (by simpa using c7)]
 by_cases c8:d.Kind=8
 ·rw[if_pos c8,Tr.rt (by simpa using c8)]
  unfold zaly
  cases hb:d.Back with
  | true=>rw[Tr.rt rfl,if_pos rfl,Tr.rg hi,Tr.rl];exact ⟨_,rfl,.inl ⟨_,rfl,rfl⟩⟩
  | false =>
   rw[Tr.rf rfl,if_neg (show ¬ (false=true) by simp),Tr.rg hi,Tr.rl]
   refine ⟨_,rfl,.inl ⟨_,?_,rfl⟩⟩
   have e:zqh w.consumers d.C { zc w.consumers d.C with Seen:=za7z w.heads d.C }={ w.consumers with SHeight:=w.consumers.SHeight.set d.C (w.heads.PHeight.get d.C),STime:=w.consumers.STime.set d.C (w.heads.PTime.get d.C),SSaid:=w.consumers.SSaid.set d.C (w.heads.PSaid.get d.C),SGot:=w.consumers.SGot.set d.C (w.heads.PGot.get d.C) }:=by
    unfold zqh zc za7z
    simp only[zqd _ hi]
   rw[e];rfl
 rw[if_neg c8,Tr.rf (by simpa using c8)]
 by_cases c11:d.Kind=11
 ·have hh:zk9 (zc (zks w).C d.C) d.V (zks w).Clock=some (z6j (zc w.consumers d.C) d.V w.clock):=zarl (c:=zc w.consumers d.C) hfc
  rw[if_neg (by omega),if_neg (by omega),if_pos c11,Tr.rt (by simpa using c11),hh,Tr.rg (by rfl),Tr.rl]
  simp only[yy2]
  unfold putW
  by_cases h0:(z6j (zc w.consumers d.C) d.V w.clock).2=0
  ·rw[if_neg (by simpa using h0)];exact ⟨_,rfl,.inl ⟨_,rfl,by rw[h0]⟩⟩
  ·rw[if_pos h0]
   refine ⟨_,rfl,.inl ⟨_,?_,rfl⟩⟩
   rw[za1i h0]
   show Sum.inl (_,({ zks w with C:=zqh w.consumers d.C (zc w.consumers d.C) }:zs2),_)=_
   rw[z3c hi];rfl
 rw[Tr.rf (by simpa using c11)]
 by_cases c12:d.Kind=12
 ·have hh:zhg (zc (zks w).C d.C) d.V d.N (zks w).Clock=some (zqb (zc w.consumers d.C) d.V d.N w.clock):=zali (c:=zc w.consumers d.C) hfc
  rw[if_neg (by omega),if_neg (by omega),if_neg c11,if_pos c12,Tr.rt (by simpa using c12),hh,Tr.rg (by rfl),Tr.rl]
  simp only[yy2]
  unfold putW
  by_cases h0:(zqb (zc w.consumers d.C) d.V d.N w.clock).2=0
  ·rw[if_neg (by simpa using h0)];exact ⟨_,rfl,.inl ⟨_,rfl,by rw[h0]⟩⟩
  ·rw[if_pos h0]
   refine ⟨_,rfl,.inl ⟨_,?_,rfl⟩⟩
   rw[zasg h0]
   show Sum.inl (_,({ zks w with C:=zqh w.consumers d.C (zc w.consumers d.C) }:zs2),_)=_
   rw[z3c hi];rfl
 rw[Tr.rf (by simpa using c12)]
 by_cases c9:d.Kind=9
 ·rw[if_pos c9,Tr.rt (by simpa using c9),Tr.rb (zavr h hi),Tr.rl];exact ⟨_,rfl,.inr rfl⟩
 rw[if_neg c9,Tr.rf (by simpa using c9)]
 have c10:d.Kind=10:=by omega
 rw[if_pos c10,Tr.rt (by simpa using c10)]
 have hr:zib (zks w).P d.C=some (ztj w.p d.C):=zabh (p:=w.p) h.fit
 have hrc:zbr (zc (zks w).C d.C)=some (z0m (zc w.consumers d.C)):=zalk (c:=zc w.consumers d.C) hfc
 have g2:=fun b=>(zapz h hi b).2.2
 unfold z6m zar1
 cases hb:d.Back with
 | true =>
  have hx:zce (zc (zks w).C d.C).Out d.N ((zks w).C.STime.get d.C) ((zks w).C.SGot.get d.C)=some (zsg (zc w.consumers d.C).Out d.N (w.consumers.STime.get d.C) (w.consumers.SGot.get d.C)):=zaaq _ _ _ (by have:=g2 true;show (ze2 w d.C true).Due.length≤_;omega)
  rw[Tr.rt rfl,if_pos rfl,hx,Tr.rg (by rfl)]
  simp only[yy2]
  by_cases h0:(zsg (zc w.consumers d.C).Out d.N (w.consumers.STime.get d.C) (w.consumers.SGot.get d.C)).2=0
  ·rw[Tr.rt (by simpa using h0),if_neg (by simpa using h0),hr,hrc,Tr.rg (by rfl),Tr.rg (by rfl),Tr.rl];exact ⟨_,rfl,.inl ⟨_,rfl,by rw[h0]⟩⟩
  ·rw[Tr.rf (by simpa using h0),if_pos h0,Tr.rl];exact ⟨_,rfl,.inl ⟨_,rfl,rfl⟩⟩
 | false =>
  have hx:zce (zx (zks w).P.Links d.C).Out d.N ((zks w).P.Links.STime.get d.C) ((zks w).P.Links.SGot.get d.C)=some (zsg (zx w.p.Links d.C).Out d.N (w.p.Links.STime.get d.C) (w.p.Links.SGot.get d.C)):=zaaq _ _ _ (by have:=g2 false;show (ze2 w d.C false).Due.length≤_;omega)
  rw[Tr.rf rfl,if_neg (show ¬ (false=true) by simp),hx,Tr.rg (by rfl)]
  simp only[yy2]
  by_cases h0:(zsg (zx w.p.Links d.C).Out d.N (w.p.Links.STime.get d.C) (w.p.Links.SGot.get d.C)).2=0
  ·rw[Tr.rt (by simpa using h0),if_neg (by simpa using h0),hr,hrc,Tr.rg (by rfl),Tr.rg (by rfl),Tr.rl];exact ⟨_,rfl,.inl ⟨_,rfl,by rw[h0]⟩⟩
  ·rw[Tr.rf (by simpa using h0),if_pos h0,Tr.rl];exact ⟨_,rfl,.inl ⟨_,rfl,rfl⟩⟩
theorem za1j {w:Wld} (h:OkW w) {d:Deed} (hn:d.N≤9223372036854775807):zc7 d (zks w)=some ((doW w d).2,zks (doW w d).1):=by
 rw[zc7,zxu]
 unfold doW
 have hd1:=h.d1
 by_cases c0:600≤w.deeds
 ·have e:(zks w).Deeds=600:=by show w.deeds=600;omega
  rw[if_pos c0,Tr.rt (by simpa using e),Tr.rb (zmo _),Tr.rl];rfl
 have hd:w.deeds < 600:=by omega
 have hd0:=h.d0
 have hw:i64.wrap ((zks w).Deeds+1)=w.deeds+1:=zg (by show _≤w.deeds+1;omega) (by show w.deeds+1≤_;omega)
 have hm:=zo0 h hd
 have e0:(zks w).Deeds≠600:=by show w.deeds≠600;omega
 rw[if_neg c0,Tr.rf (by simpa using e0),hw]
 have em:({ zks w with Deeds:=w.deeds+1 }:zs2)=zks (zeu w):=rfl
 unfold actW
 by_cases c1:d.Kind=1
 ·have hh:zbw (zks w).P d.D d.V d.N=some _:=z8k (p:=w.p) h.fit hn
  rw[if_pos c1,Tr.rt (by simpa using c1),hh,Tr.rg (by rfl),Tr.rb (zmo _),Tr.rl]
  simp only[yy2]
  unfold z07
  have e:(zeu w).p=w.p:=rfl
  rw[e]
  by_cases h0:(zff w.p d.D d.V d.N).2=0
  ·rw[if_neg (by simpa using h0),h0];rfl
  ·rw[if_pos h0,zajr h0];rfl
 rw[if_neg c1,Tr.rf (by simpa using c1)]
 by_cases c2:d.Kind=2
 ·have hh:zbe (zks w).P d.D d.V d.N (zks w).Clock=some _:=z33 (p:=w.p) h.fit hn
  rw[if_pos c2,Tr.rt (by simpa using c2),hh,Tr.rg (by rfl),Tr.rb (zmo _),Tr.rl]
  simp only[yy2]
  unfold z07
  have e:(zeu w).p=w.p:=rfl
  rw[e]
  have e2:(zks w).Clock=w.clock:=rfl
  have e3:(zeu w).clock=w.clock:=rfl
  rw[e2,e3]
  by_cases h0:(zcu w.p d.D d.V d.N w.clock).2=0
  ·rw[if_neg (by simpa using h0),h0];rfl
  ·rw[if_pos h0,zaet h0];rfl
 rw[if_neg c2,Tr.rf (by simpa using c2)]
 by_cases c3:d.Kind=3
 ·have hh:zga (zks w).P.Stake d.V 1=some _:=zabv (s:=w.p.Stake)
  rw[if_pos c3,Tr.rt (by simpa using c3),hh,Tr.rg (by rfl),Tr.rb (zmo _),Tr.rl]
  simp only[yy2]
  unfold z07 zajo
  have e:(zeu w).p=w.p:=rfl
  rw[e]
  by_cases h0:(zda w.p.Stake d.V 1).2=0
  ·rw[if_neg (by simpa using h0),h0];rfl
  ·rw[if_pos h0,zavq h0];rfl
 rw[if_neg c3,Tr.rf (by simpa using c3)]
 by_cases c13:d.Kind=13
 ·have hh:zhj (zks w).P d.V d.N=some _:=zafr (p:=w.p) h.fit
  rw[if_pos c13,Tr.rt (by simpa using c13),hh,Tr.rg (by rfl),Tr.rb (zmo _),Tr.rl]
  simp only[yy2]
  unfold z07
  have e:(zeu w).p=w.p:=rfl
  rw[e]
  by_cases h0:(zyu w.p d.V d.N).2=0
  ·rw[if_neg (by simpa using h0),h0];rfl
  ·rw[if_pos h0,zavp h0];rfl
 rw[if_neg c13,Tr.rf (by simpa using c13)]
 by_cases c5:d.Kind=5
 ·rw[if_pos c5,Tr.rt (by simpa using c5)]
  have t0:=h.t0;have t1:=h.t1
  have h1:i64.wrap (1099511627736 - (zks w).Clock)=1099511627736 - w.clock:=zg (by show _≤1099511627736 - w.clock;omega) (by show 1099511627736 - w.clock≤_;omega)
  rw[h1]
  unfold zave
  have e3:(zeu w).clock=w.clock:=rfl
  rw[e3]
  by_cases h0:d.N < 1∨1099511627736 - w.clock < d.N
  ·rw[Tr.rt (by simpa using h0),if_pos h0,Tr.rb (zmo _),Tr.rl];rfl
  ·have h2:i64.wrap ((zks w).Clock+d.N)=w.clock+d.N:=zg (by show _≤w.clock+d.N;omega) (by show w.clock+d.N≤_;omega)
   rw[Tr.rf (by simp;omega),if_neg h0,Tr.rl,h2];rfl
 rw[if_neg c5,Tr.rf (by simpa using c5)]
 by_cases c6:d.Kind=6
 ·have hh:zbj (zks w).P (zks w).Clock=some (zpb w.p w.clock):=zajk (p:=w.p) h.fit
  rw[if_pos c6,Tr.rt (by simpa using c6),hh,Tr.rg (by rfl)]
  simp only[yy2]
  unfold z0o
  have e:(zeu w).p=w.p:=rfl
  have e3:(zeu w).clock=w.clock:=rfl
  rw[e,e3]
  by_cases h0:(zpb w.p w.clock).2.2=0
  ·have hl:zjz (zpb w.p w.clock).2.1 0 { zks w with Deeds:=w.deeds+1,P:=(zpb w.p w.clock).1 } ⟨0,0⟩=_:=zan6 (w:={ zeu w with p:=(zpb w.p w.clock).1 }) (zpb w.p w.clock).2.1 ⟨0,0⟩
   rw[Tr.rf (by simpa using h0),if_neg (by simpa using h0),Tr.rb hl,Tr.rl];rfl
  ·rw[Tr.rt (by simpa using h0),if_pos h0,Tr.rb (zmo _),Tr.rl,za1h h0];rfl
 rw[if_neg c6,Tr.rf (by simpa using c6)]
 by_cases b1:d.Kind < 4∨12 < d.Kind
 ·unfold zii
  rw[if_pos b1,Tr.rt (by simp;omega),Tr.rb (zmo _),Tr.rl];rfl
 rw[Tr.rf (by simp;omega)]
 by_cases b2:d.C < 0∨2≤d.C
 ·unfold zii
  rw[if_neg b1,if_pos b2,Tr.rt (by simp;omega),Tr.rb (zmo _),Tr.rl];rfl
 have hi:0≤d.C∧d.C < 2:=by omega
 rw[Tr.rf (by simp;omega),em]
 have hB:=zavs hm hi
 by_cases c4:d.Kind=4
 ·rw[if_pos c4] at hB
  unfold zii
  rw[Tr.ri hB,Tr.rl,if_neg b1,if_neg b2,if_neg (by omega),if_pos c4]
 rw[if_neg c4] at hB
 rw[Tr.rj hB]
 simp only[]
 rw[Tr.rg hi]
 have eon:(zks (zeu w)).C.On.get d.C=(zeu w).consumers.On.get d.C:=rfl
 rw[eon]
 cases c3:(zeu w).consumers.On.get d.C with
 | false =>
  unfold zii
  rw[Tr.rt (show (!false)=true from rfl),Tr.rb (zmo _),Tr.rl,if_neg b1,if_neg b2,if_pos ⟨c4,c3⟩];rfl
 | true =>
  rw[Tr.rf (show (!true)=false from rfl),Tr.rg hi,Tr.rg hi]
  obtain ⟨r,r1,r2⟩:=zavt hm (d:=d) hi (by omega) (by omega) c3
  rcases r2 with ⟨e,r2,r3⟩ | r2
  ·rw[r2] at r1
   rw[Tr.ri r1,Tr.rb (zmo _),Tr.rl,r3]
  ·rw[r2] at r1
   rw[Tr.rj r1,Tr.rl]
theorem OkW.cfit {w:Wld} (h:OkW w) {i:Int} (hi:0≤i∧i < 2):FitC 140737488351232 (zc w.consumers i):=(h.c i hi).fit h.d1
theorem za76 {w:Wld} (h:OkW w):za9 w=some (w.p,w):=zal3 h.fit
def za77 (l:List Deed):Prop:=l.length≤4611686018427387904∧∀ d,d∈l→d.N≤9223372036854775807
theorem zbh9:zaur (default:zb):=by constructor<;>first | exact Nat.zero_le _ | (intro p hp;cases hp)
theorem zaax (l:List Deed):Sl.len (.deeds l)=l.length:=rfl
def zan7 (l:List Deed):Nat:=min l.length 120
theorem zavu {l:List Deed}:((decide (((zan7 l:Nat):Int) < ((l.length:Nat):Int)))&&(decide (((zan7 l:Nat):Int) < 120)))=false:=by
 unfold zan7
 rw[Bool.and_eq_false_iff,yy8,yy8]
 omega
theorem zavv {l:List Deed} {i:Nat} (h:i < zan7 l):((decide ((i:Int) < ((l.length:Nat):Int)))&&(decide ((i:Int) < 120)))=true:=by
 unfold zan7 at h
 rw[yy7,decide_eq_true_eq,decide_eq_true_eq]
 omega
theorem zan8 (w:Wld) (t:Nat):roOW t w (ze1 w)=some (w.clock,w):=za36 (za1g w)
theorem za1k {l:List Deed} (hn:za77 l):∃ w,zls l 0 newW (zks newW)=some (.inr (w,zks w))∧OkW w:=by
 have key:=zgg (F:=fun s:(List Deed)×Int×Wld×zs2=>(zfn s.1 s.2.1 s.2.2.1 s.2.2.2).run) (zan7 l) (fun i (w:Wld)=>(l,(i:Int),w,zks w)) (fun _ w=>OkW w) (fun _ _ r=>∃ w,r=.inr (w,zks w)∧OkW w) (fun w h=>⟨.inr (w,zks w),by
   simp only[zfn]
   rw[Tr.rf zavu,Tr.rl],w,rfl,h⟩) (fun i w hi h=>by
   have hlt:i < l.length:=by unfold zan7 at hi;omega
   have hd:=hn.2 _ (zbk (l:=l) (k:=i) hlt default)
   refine .inl ⟨(doW w (l.getD i default)).1,?_,zbh8 h _,fun r hr=>hr⟩
   simp only[zfn,yy4]
   rw[Tr.rt (zavv hi),Tr.rg ⟨by omega,by rw[zaax];omega⟩,zbpa h hd,Tr.rg (by rfl),Tr.rg ⟨by omega,by rw[zaax];omega⟩,za1j h hd,Tr.rg (by rfl)]
   simp only[yy2,zan8]
   rw[Tr.rg (fun _=>⟨rfl,trivial⟩),Tr.rf (by
    have e:(zks (doW w (l.getD i default)).1).Clock=(doW w (l.getD i default)).1.clock:=rfl
    rw[e];simp),Tr.rl,zl (by have:=hn.1;omega)]) 0 newW (Nat.zero_le _) za71
 obtain ⟨r,h1,w,h2,h3⟩:=key
 exact ⟨w,by rw[zls];rw[h2] at h1;exact h1,h3⟩
theorem za1l {w:Wld} (h:OkW w):zlt (-1) w (zks w)=some (.inr ()):=by
 have turn:∀ i:Int,-1≤i→i < 3→(zdw i w (zks w)).run=some (.inl (i+1,w,zks w)):=by
  intro i h0 h3
  have hc:=zal4 (w:=w) (i:=i) (fun hi=>h.cfit hi)
  have hw:i64.wrap (i+1)=i+1:=zg (by omega) (by omega)
  simp only[zdw]
  rw[Tr.rt (by simpa using h3)]
  by_cases hi:0≤i∧i < 2
  ·rw[if_pos hi] at hc
   have hs:zbp (zc w.consumers i) (zc (zks w).C i)=some true:=zapl ((h.cfit hi).mono (by omega)).count
   rw[Tr.rt (by simp;omega),Tr.rg hi,hc,Tr.rg (by rfl)]
   simp only[yy2]
   rw[hs,Tr.rg (by rfl)]
   simp only[yy2]
   rw[Tr.rf (by rfl),Tr.rl,hw]
  ·rw[if_neg hi] at hc
   have hs:zbp default default=some true:=zapl zbh9
   rw[Tr.rf (by simp;omega),hc,Tr.rg (by rfl)]
   simp only[yy2]
   rw[hs,Tr.rg (by rfl)]
   simp only[yy2]
   rw[Tr.rf (by rfl),Tr.rl,hw]
 rw[zlt,zab (turn (-1) (by omega) (by omega)),zab (turn (-1+1) (by omega) (by omega)),zab (turn (-1+1+1) (by omega) (by omega)),zab (turn (-1+1+1+1) (by omega) (by omega)),zba (by
  show (zdw 3 _ _).run=_
  simp only[zdw]
  rw[Tr.rf (by simp),Tr.rl])]
theorem zajs {l:List Deed} (hn:za77 l):zla l=some true:=by
 obtain ⟨w,h1,h⟩:=za1k hn
 have hs:zfm w.p (zks w).P=some true:=zauy (h.fit.len (by omega))
 rw[zla,zsf,Tr.rb za74,Tr.rb zasf,Tr.rj h1]
 simp only[]
 rw[za76 h,Tr.rg (by rfl)]
 simp only[yy2]
 rw[hs,Tr.rg (by rfl)]
 simp only[yy2]
 rw[Tr.rf (by rfl),Tr.rj (za1l h),Tr.rl]
