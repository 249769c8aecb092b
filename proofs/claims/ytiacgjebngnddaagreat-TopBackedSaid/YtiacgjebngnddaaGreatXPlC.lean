/-
  The plain lemmas.
-/
import Derived.Test.YtiacgjebngnddaaGreatXFTop
import Derived.Test.YtiacgjebngnddaaGreatXPlB
namespace Go.Proofs.YtiacgjebngnddaaGreat.Ab
open Go Go.RowKit
set_option linter.unusedVariables false
set_option linter.unusedSimpArgs false
theorem zade {c H:Int} {x:Wait} {i:Int} (hi:0≤i∧i < 2):hN (zdh c H x) i=if H < x.Height∧c=i then x.Height else hN x i:=by
 unfold zdh
 by_cases e:H < x.Height
 ·rw[if_pos e]
  rcases (show i=0∨i=1 by omega) with rfl | rfl
  ·show (if c=0 then x.Height else x.h0)=_
   by_cases k:c=0
   ·rw[if_pos k,if_pos ⟨e,k⟩]
   ·rw[if_neg k,if_neg (fun z=>k z.2)];rfl
  ·show (if c=1 then x.Height else x.h1)=_
   by_cases k:c=1
   ·rw[if_pos k,if_pos ⟨e,k⟩]
   ·rw[if_neg k,if_neg (fun z=>k z.2)];rfl
 ·rw[if_neg e,if_neg (fun z=>e z.1)]
theorem HoldW.one {w w':Wld} (h:OkW w) (hh:HoldW w) {j:Int} (hj:0≤j∧j < 2) (hW:w'.p.Stake.Waits=w.p.Stake.Waits) (hH:w'.p.Height=w.p.Height) (ht:w'.clock=w.clock)
  (hl:∀ i:Int,0≤i∧i < 2→i≠j→ze w'.p.Links i=ze w.p.Links i∧zb w'.consumers i=zb w.consumers i) (hQ:∀ a,a∈w.p.Queue→a∈w'.p.Queue)
  (hon:(zb w'.consumers j).On=(zb w.consumers j).On) (hk:∀ n:Int,Wit w j n→Wit w' j n):HoldW w':=by
 refine hh.keep h.p.2.1.1 (by rw[hW];exact .refl _) hH (by rw[ht];exact Int.le_refl _) fun i n hi ho k=>?_
 by_cases e:i=j
 ·subst e;exact ⟨hon.trans ho,hk n k⟩
 ·obtain ⟨e1,e2⟩:=hl i hi e
  exact ⟨by rw[e2];exact ho,k.mono (by rw[e1];exact id) (by rw[hH];exact Int.le_refl _) (by rw[e2];exact fun _ h=>h) (by rw[e1];exact fun _ h=>h) (by rw[e2];exact fun _ h=>h) (by rw[e2];exact fun _ h=>h) (fun a ha _=>hQ a ha)⟩
def fwdN (w:Wld) (i:Int):Int:=(((ze w.p.Links i).Out.Said.length:Nat):Int) - (ze w.p.Links i).Out.Got
def sdN (w:Wld) (i:Int):Int:=(((zb w.consumers i).Out.Said.length:Nat):Int)
def bckN (w:Wld) (i:Int):Int:=sdN w i - (zb w.consumers i).Out.Got
def zaiw (w:Wld) (i:Int):Int:=(((zb w.consumers i).Pending.length+(zb w.consumers i).Ripes.length:Nat):Int)
def cntN (w:Wld) (i:Int):Int:=sdN w i+zaiw w i+fwdN w i
def phiN (w:Wld) (i:Int):Int:=if (zb w.consumers i).On=true then 2*fwdN w i+zaiw w i+bckN w i+2 else 0
structure Meas (w w':Wld) (i a b:Int):Prop where
 cnt:(zb w'.consumers i).On=true→cntN w' i≤(if (zb w.consumers i).On=true then cntN w i else 0)+a
 phi:phiN w' i≤phiN w i+b
theorem Meas.of {w w':Wld} {i a b:Int} (ho:(zb w'.consumers i).On=(zb w.consumers i).On) (x y z u:Int) (e1:fwdN w' i=fwdN w i+x) (e2:zaiw w' i=zaiw w i+y) (e3:bckN w' i=bckN w i+z) (e4:sdN w' i=sdN w i+u)
  (k1:u+y+x≤a) (k2:2*x+y+z≤b) (k3:0≤b):Meas w w' i a b:=by
 refine ⟨fun h=>?_,?_⟩
 ·rw[ho] at h
  rw[if_pos h]
  unfold cntN;omega
 ·unfold phiN
  rw[ho]
  split<;>omega
theorem Meas.same {w w':Wld} {i a b:Int} (h1:zb w'.consumers i=zb w.consumers i) (h2:(ze w'.p.Links i).Out=(ze w.p.Links i).Out) (ha:0≤a) (hb:0≤b):Meas w w' i a b :=
 .of (by rw[h1]) 0 0 0 0 (by unfold fwdN;rw[h2];omega) (by unfold zaiw;rw[h1];omega) (by unfold bckN sdN;rw[h1];omega) (by unfold sdN;rw[h1];omega) (by omega) (by omega) hb
structure za0a (w:Wld):Prop where
 ok:OkW w
 told:zap8 w
 one:OneW w
 hold:HoldW w
 h4:w.p.Height < 399
def psiN (w:Wld):Int:=w.deeds+phiN w 0+phiN w 1
structure Fr (w w':Wld) (i:Int):Prop where
 clock:w'.clock=w.clock
 height:w'.p.Height=w.p.Height
 set:w'.p.Set=w.p.Set
 vals:w'.p.Stake.Validators=w.p.Stake.Validators
 met:w'.p.Meter=w.p.Meter
 other:∀ j:Int,0≤j∧j < 2→j≠i→zb w'.consumers j=zb w.consumers j∧ze w'.p.Links j=ze w.p.Links j
 waits:NearW w.p.Stake.Waits w'.p.Stake.Waits
theorem Fr.refl (w:Wld) (i:Int):Fr w w i:=⟨rfl,rfl,rfl,rfl,rfl,fun _ _ _=>⟨rfl,rfl⟩,.refl _⟩
theorem Fr.trans {a b c:Wld} {i:Int} (h:Fr a b i) (k:Fr b c i):Fr a c i :=
 ⟨k.clock.trans h.clock,k.height.trans h.height,k.set.trans h.set,k.vals.trans h.vals,k.met.trans h.met,fun j hj e=>⟨(k.other j hj e).1.trans (h.other j hj e).1,(k.other j hj e).2.trans (h.other j hj e).2⟩,h.waits.trans k.waits⟩
structure SameP (h h':ztz):Prop where
 time:h'.PTime=h.PTime
 got:h'.PGot=h.PGot
 said:h'.PSaid=h.PSaid
theorem SameP.refl (h:ztz):SameP h h:=⟨rfl,rfl,rfl⟩
theorem SameP.trans {a b c:ztz} (h:SameP a b) (k:SameP b c):SameP a c:=⟨k.time.trans h.time,k.got.trans h.got,k.said.trans h.said⟩
def ripR (w:Wld) (i:Int):List Ripe:=(zb w.consumers i).Ripes++(zb w.consumers i).Pending.map (fun p=>(⟨p.Id,w.clock+15⟩:Ripe))
structure Done (w:Wld) (i:Int) (k:Nat):Prop where
 k0:k≤(ripR w i).length
 live:za0a (zn5 w i)
 psi:psiN (zn5 w i)≤psiN w+1
 on:(zb (zn5 w i).consumers i).On=true
 pend:(zb (zn5 w i).consumers i).Pending=[]
 ripes:(zb (zn5 w i).consumers i).Ripes=(ripR w i).drop k
 said:(zb (zn5 w i).consumers i).Out.Said=(zb w.consumers i).Out.Said++((ripR w i).take k).map matT
 got:(zb (zn5 w i).consumers i).Out.Got=(zb w.consumers i).Out.Got
 ok:∀ r,r∈ripR w i→zjg r=true
 all:(∀ r,r∈ripR w i→r.Due≤w.clock)→cntN w i < 400→(ripR w i).drop k=[]
 hp:SameP w.heads (zn5 w i).heads
 ctime:(zn5 w i).heads.CTime.get i=w.clock
 cgot:(zn5 w i).heads.CGot.get i=(ze w.p.Links i).Out.Got
 csaid:(zn5 w i).heads.CSaid.get i=(((zb (zn5 w i).consumers i).Out.Said.length:Nat):Int)
 cnt:cntN (zn5 w i) i≤cntN w i
theorem zals {w:Wld} (h:OkW w):z8 w.p=true∧w.p.Time≤w.clock∧w.clock≤1099511627776:=⟨h.pr,h.pt,by have:=h.t1;omega⟩
theorem zaix {w:Wld} (h:OkW w):(zxn w).p.Set=setS (zxn w).p.Stake:=by
 obtain ⟨r1,r2,r3,r4,-⟩:=zor (zals h)
 show (zgs w.p w.clock).1.Set=setS (zgs w.p w.clock).1.Stake
 rw[r4,r3]
def ChainP (H:Int→List Power→Prop):Int→List Power→List Packet→Prop
 | id,s,[]=>H id s
 | id,s,q::l=>H id s∧ChainP H q.Id (zon s q.Set) l
theorem ChainP.head {H:Int→List Power→Prop}:∀ {l:List Packet} {id:Int} {s:List Power},ChainP H id s l→H id s
 | [],_,_,h=>h
 | _::_,_,_,h=>h.1
theorem ChainP.mono {H K:Int→List Power→Prop} {m:Int} (hk:∀ n s,m≤n→H n s→K n s):∀ {l:List Packet} {id:Int} {s:List Power},m≤id→z2c id l→ChainP H id s l→ChainP K id s l
 | [],_,_,hm,_,h=>hk _ _ hm h
 | q::l,id,_,hm,hr,h=>⟨hk _ _ hm h.1,h.2.mono hk (by have:=hr.1;omega) hr.2⟩
theorem ChainP.tail {H:Int→List Power→Prop}:∀ {l m:List Packet} {id:Int} {s:List Power},ChainP H id s (l++m)→ChainP H (z2b id l) (z3c s l) m
 | [],_,_,_,h=>h
 | _::l,m,_,_,h=>ChainP.tail (l:=l) h.2
theorem ChainP.snoc {H:Int→List Power→Prop} {q:Packet}:∀ {l:List Packet} {id:Int} {s:List Power},ChainP H id s l→H q.Id (zon (z3c s l) q.Set)→ChainP H id s (l++[q])
 | [],_,_,h,k=>⟨h,k⟩
 | _::l,_,_,h,k=>⟨h.1,ChainP.snoc (l:=l) h.2 k⟩
def SetsI (H:Int→List Power→Prop) (w:Wld) (i:Int):Prop:=∃ ms,WayI w i ms∧ChainP H (zb w.consumers i).Id (zb w.consumers i).Set ((zb w.consumers i).Pending++ms)
def zalt (H:Int→List Power→Prop) (w:Wld):Prop:=∀ i:Int,0≤i∧i < 2→(zb w.consumers i).On=true→SetsI H w i
theorem SetsI.same {H K:Int→List Power→Prop} {w w':Wld} {i:Int} (hk:∀ n s,(zb w.consumers i).Id≤n→H n s→K n s) (h:SetsI H w i) (e1:(ze w'.p.Links i).Out.Said=(ze w.p.Links i).Out.Said) (e2:(ze w'.p.Links i).Out.Got=(ze w.p.Links i).Out.Got) (e3:(ze w'.p.Links i).Told=(ze w.p.Links i).Told)
  (e4:(zb w'.consumers i).Id=(zb w.consumers i).Id) (e5:(zb w'.consumers i).Pending=(zb w.consumers i).Pending) (e6:(zb w'.consumers i).Set=(zb w.consumers i).Set) (e7:w.p.Height≤w'.p.Height):SetsI K w' i:=by
 obtain ⟨ms,h1,h2⟩:=h
 exact ⟨ms,h1.same e1 e2 e3 e4 e5 e6 e7,by rw[e4,e5,e6];exact h2.mono hk (Int.le_refl _) h1.rise⟩
theorem SetsI.cons {H K:Int→List Power→Prop} {w w':Wld} {i j:Int} {c:zc} (hk:∀ n s,(zb w.consumers i).Id≤n→H n s→K n s) (hj:0≤j∧j < 2) (hi:0≤i∧i < 2) (h:SetsI H w i) (hl:(ze w'.p.Links i).Out.Said=(ze w.p.Links i).Out.Said∧(ze w'.p.Links i).Out.Got=(ze w.p.Links i).Out.Got∧(ze w'.p.Links i).Told=(ze w.p.Links i).Told)
  (hc:w'.consumers=zla w.consumers j c) (h1:c.Id=(zb w.consumers j).Id) (h2:c.Pending=(zb w.consumers j).Pending) (h3:c.Set=(zb w.consumers j).Set) (hH:w.p.Height≤w'.p.Height):SetsI K w' i:=by
 have e:=zms (C:=w.consumers) hj hi c
 refine h.same hk hl.1 hl.2.1 hl.2.2 ?_ ?_ ?_ hH
 all_goals
  rw[hc,e]
  split
  ·rename_i k;rw[k];assumption
  ·rfl
theorem zvy {w:Wld} {i j:Int} {c:zc} (hj:0≤j∧j < 2) (hi:0≤i∧i < 2) (hon:(zb w.consumers j).On=true) (ho:(zb (zla w.consumers j c) i).On=true):(zb w.consumers i).On=true:=by
 rw[zms hj hi c] at ho
 split at ho
 ·rename_i k;rw[k];exact hon
 ·exact ho
theorem zap9 {H K:Int→List Power→Prop} {w:Wld} (h:OkW w) (hd:w.deeds < 600) (ht:zalt H w) (d:Deed) (hkk:∀ i:Int,0≤i∧i < 2→(zb w.consumers i).On=true→∀ n s,(zb w.consumers i).Id≤n→H n s→K n s) (hK:K (doW w d).1.p.Height (doW w d).1.p.Set):zalt K (doW w d).1:=by
 intro i hi
 revert hK
 have hk:=hkk i hi
 refine zxo h hd d (P:=fun w' r=>K w'.p.Height w'.p.Set→(zb w'.consumers i).On=true→SetsI K w' i) ?_ ?_ ?_ ?_ ?_ ?_ ?_ ?_ ?_ ?_ ?_ ?_ ?_ ?_ ?_
 ·intro w' r a _ _ ho
  rw[a.c] at ho
  exact (ht i hi ho).same (hk ho) (by rw[a.p]) (by rw[a.p]) (by rw[a.p]) (by rw[a.c]) (by rw[a.c]) (by rw[a.c]) (by rw[a.p];exact Int.le_refl _)
 ·intro _ _ _ ho;exact (ht i hi ho).same (hk ho) rfl rfl rfl rfl rfl rfl (Int.le_refl _)
 ·intro _ _ _ ho;exact (ht i hi ho).same (hk ho) rfl rfl rfl rfl rfl rfl (Int.le_refl _)
 ·intro _ _ _ ho;exact (ht i hi ho).same (hk ho) rfl rfl rfl rfl rfl rfl (Int.le_refl _)
 ·intro _ _ _ _ _ ho;exact (ht i hi ho).same (hk ho) rfl rfl rfl rfl rfl rfl (Int.le_refl _)
 ·intro _ _ _ _ ho;exact (ht i hi ho).same (hk ho) rfl rfl rfl rfl rfl rfl (Int.le_refl _)
 ·intro _ hK ho
  obtain ⟨ms,hm,hc⟩:=ht i hi ho
  have hg:z8 w.p=true∧w.p.Time≤w.clock∧w.clock≤1099511627776:=⟨h.pr,h.pt,by have:=h.t1;omega⟩
  obtain ⟨D',-,hD⟩:=zac8 hg hi
  obtain ⟨r1,r2,r3,r4,-⟩:=zor hg
  have hHt:(zxn w).p.Height=w.p.Height+1:=r1
  have hset:zey (fP (zgs w.p w.clock).1.Set)=(zgs w.p w.clock).1.Set:=by rw[r4];exact z80 _
  rcases hD with ⟨e1,e2,e3,e4,-⟩ | ⟨e1,e2,e3,e4,e5,e6,e7,e8,e9⟩
  ·have el:(ze (zxn w).p.Links i).Out=(ze w.p.Links i).Out:=e4
   exact SetsI.same (hk ho) ⟨ms,hm,hc⟩ (by rw[el]) (by rw[el]) e1 rfl rfl rfl (by omega)
  ·have el:(ze (zxn w).p.Links i).Out=_:=e9
   have gl:=(h.p.lk hi).line
   have hgot:(ze w.p.Links i).Out.Got.toNat≤(ze w.p.Links i).Out.Said.length:=by
    have a1:0≤(ze w.p.Links i).Out.Got:=gl.2.2.1
    have a2:(ze w.p.Links i).Out.Got≤(((ze w.p.Links i).Out.Said.length:Nat):Int):=gl.2.2.2.1
    omega
   obtain ⟨a1,a2,a3,a4,a5,a6⟩:=hm
   obtain ⟨k,hkk⟩:∃ k:Packet,k=⟨1,(zgs w.p w.clock).1.Height,0,0,zoo (fP (w.p.Links.Told.get i)) (fP (zgs w.p w.clock).1.Set),D'⟩:=⟨_,rfl⟩
   rw[← hkk] at e8 el
   have kid:k.Id=w.p.Height+1:=by rw[hkk];exact r1
   have ap:zon (ze w.p.Links i).Told k.Set=(zgs w.p w.clock).1.Set:=by rw[hkk];exact zalh hset
   refine ⟨ms++[k],⟨?_,?_,?_,?_,?_,?_⟩,?_⟩
   ·rw[el]
    show ((ze w.p.Links i).Out.Said++[txt (zn0 k)]).drop (ze w.p.Links i).Out.Got.toNat=_
    rw[zaiv hgot,a1,List.map_append];rfl
   ·intro q hq
    rcases List.mem_append.1 hq with hq | hq
    ·exact a2 q hq
    ·rw[List.mem_singleton.1 hq];exact ⟨e8,by rw[hkk]⟩
   ·show z2c (zb w.consumers i).Id ((zb w.consumers i).Pending++(ms++[k]))
    rw[← List.append_assoc,rises_app]
    refine ⟨a3,?_,trivial⟩
    have:=z6v (n:=w.p.Height) a4 a5
    omega
   ·show (zb w.consumers i).Id≤(zxn w).p.Height;omega
   ·intro q hq
    have hq':q∈(zb w.consumers i).Pending++(ms++[k]):=hq
    rw[← List.append_assoc] at hq'
    rcases List.mem_append.1 hq' with hq' | hq'
    ·have:=a5 q hq';omega
    ·rw[List.mem_singleton.1 hq'];omega
   ·show z3c (zb w.consumers i).Set ((zb w.consumers i).Pending++(ms++[k]))=(ze (zgs w.p w.clock).1.Links i).Told
    rw[← List.append_assoc,z89,a6]
    show zon (ze w.p.Links i).Told k.Set=(zgs w.p w.clock).1.Links.Told.get i
    rw[e1,ap]
   ·show ChainP K (zb w.consumers i).Id (zb w.consumers i).Set ((zb w.consumers i).Pending++(ms++[k]))
    rw[← List.append_assoc]
    refine (hc.mono (hk ho) (Int.le_refl _) a3).snoc ?_
    rw[a6,ap]
    have hK:K (zgs w.p w.clock).1.Height (zgs w.p w.clock).1.Set:=hK
    rw[show k.Id=(zgs w.p w.clock).1.Height by rw[hkk]]
    exact hK
 ·intro _ hj hg hno _ _ hK ho
  by_cases e:i=d.C
  ·rw[e]
   have hci:zb (zabg w d.C).consumers d.C=zlz w.p.Set w.p.Height w.clock:=zec hj _
   have el:ze (zabg w d.C).p.Links d.C=_:=zk9 (L:=w.p.Links) (H:=w.p.Height) (T:=w.p.Set) (f:=zt6 w.p) hj hj
   rw[if_pos rfl] at el
   refine ⟨[],⟨by rw[el];rfl,by simp,by rw[hci];trivial,by rw[hci];exact Int.le_refl _,?_,by rw[hci,el];rfl⟩,by rw[hci];exact hK⟩
   rw[hci];intro q hq;cases hq
  ·have hci:zb (zabg w d.C).consumers i=zb w.consumers i:=zc2 hj hi e _
   have el:ze (zabg w d.C).p.Links i=_:=zk9 (L:=w.p.Links) (H:=w.p.Height) (T:=w.p.Set) (f:=zt6 w.p) hj hi
   rw[if_neg e] at el
   rw[hci] at ho
   exact (ht i hi ho).same (hk ho) (by rw[el]) (by rw[el]) (by rw[el]) (by rw[hci]) (by rw[hci]) (by rw[hci]) (Int.le_refl _)
 ·intro _ hj hon _ ho
  have hw:=h.c d.C hj
  obtain ⟨e0,m,k,hm0,hpm,hl,hk',hf,f1,-⟩:=ztw (now:=w.clock) hw.good hon ⟨hw.time,by have:=h.t1;omega⟩ (by have:=hw.height;omega)
  by_cases e:i=d.C
  ·rw[e]
   obtain ⟨ms,⟨a1,a2,a3,a4,a5,a6⟩,hc⟩:=ht d.C hj hon
   have hci:zb (zn5 w d.C).consumers d.C=(zxh w.clock (zb w.consumers d.C)).1:=zec hj _
   obtain ⟨s1,s2⟩:=z2d (now:=w.clock) (zb w.consumers d.C).Pending { zb w.consumers d.C with Height:=(zb w.consumers d.C).Height+1,Time:=w.clock }
   rw[← hm0] at s1 s2
   have q1:(zb (zn5 w d.C).consumers d.C).Id=z2b (zb w.consumers d.C).Id (zb w.consumers d.C).Pending:=by rw[hci,hf];exact s2
   have q2:(zb (zn5 w d.C).consumers d.C).Set=z3c (zb w.consumers d.C).Set (zb w.consumers d.C).Pending:=by rw[hci,hf];exact s1
   have q3:(zb (zn5 w d.C).consumers d.C).Pending=[]:=by rw[hci,hf]
   refine ⟨ms,⟨a1,a2,?_,?_,?_,?_⟩,?_⟩
   ·rw[q1,q3];exact (rises_app.1 a3).2
   ·rw[q1];exact z6v a4 (fun q hq=>a5 q (List.mem_append_left _ hq))
   ·rw[q3];exact fun q hq=>a5 q (List.mem_append_right _ hq)
   ·rw[q2,q3,List.nil_append,← z89];exact a6
   ·rw[q1,q2,q3,List.nil_append];exact (hc.mono (hkk d.C hj hon) (Int.le_refl _) a3).tail
  ·have hci:zb (zn5 w d.C).consumers i=zb w.consumers i:=zc2 hj hi e _
   rw[hci] at ho
   exact (ht i hi ho).same (hk ho) rfl rfl rfl (by rw[hci]) (by rw[hci]) (by rw[hci]) (Int.le_refl _)
 ·intro _ hj _ _ _ ho
  have el:ze (zauj w d.C).p.Links i=_:=zaa7 (L:=w.p.Links) hj hi (zapx w.heads d.C)
  exact (ht i hi ho).same (hk ho) (by rw[el];split<;>rfl) (by rw[el];split<;>rfl) (by rw[el];split<;>rfl) rfl rfl rfl (Int.le_refl _)
 ·intro _ hj hon _ _ ho
  exact (ht i hi (zvy hj hi hon ho)).cons (hk (zvy hj hi hon ho)) hj hi ⟨rfl,rfl,rfl⟩ rfl rfl rfl rfl (Int.le_refl _)
 ·intro q _ hj hon _ _ _ _ ho
  exact (ht i hi (zvy hj hi hon ho)).cons (hk (zvy hj hi hon ho)) hj hi ⟨rfl,rfl,rfl⟩ rfl rfl rfl rfl (Int.le_refl _)
 ·intro q _ hj hon _ hcm hq1 _ ho
  have el:ze (gotF w d.C q).p.Links i=_:=ztu (L:=w.p.Links) hj hi { (ze w.p.Links d.C).Out with Got:=(ze w.p.Links d.C).Out.Got+1 }
  by_cases e:i=d.C
  ·rw[e] at el ⊢
   rw[if_pos rfl] at el
   obtain ⟨ms,⟨a1,a2,a3,a4,a5,a6⟩,hc⟩:=ht d.C hj hon
   have hci:zb (gotF w d.C q).consumers d.C={ zb w.consumers d.C with Pending:=(zb w.consumers d.C).Pending++[q] }:=zec hj _
   have hgot:(ze w.p.Links d.C).Out.Got.toNat < (ze w.p.Links d.C).Out.Said.length:=hcm.got
   have hg0:0≤(ze w.p.Links d.C).Out.Got:=hcm.good.2.2.1
   have htx:(ze w.p.Links d.C).Out.Said.getD (ze w.p.Links d.C).Out.Got.toNat .empty=txt (zn0 q):=hcm.text
   rw[zat hgot .empty,htx] at a1
   cases ms with
   | nil=>cases a1
   | cons m ms =>
    rw[List.map_cons] at a1
    obtain ⟨b1,b2⟩:=List.cons.inj a1
    have hm:m=q:=(zabh hcm.pk (a2 m (List.mem_cons_self ..)).1 b1).symm
    subst hm
    have hlist:(zb w.consumers d.C).Pending++m::ms=(zb w.consumers d.C).Pending++[m]++ms:=by simp
    rw[hlist] at a3 a5 a6 hc
    refine ⟨ms,⟨?_,fun r hr=>a2 r (List.mem_cons_of_mem _ hr),by rw[hci];exact a3,by rw[hci];exact a4,by rw[hci];exact a5,by rw[hci,el];exact a6⟩,by rw[hci];exact hc.mono (hkk d.C hj hon) (Int.le_refl _) a3⟩
    rw[el]
    show (ze w.p.Links d.C).Out.Said.drop ((ze w.p.Links d.C).Out.Got+1).toNat=_
    rw[show ((ze w.p.Links d.C).Out.Got+1).toNat=(ze w.p.Links d.C).Out.Got.toNat+1 by omega]
    exact b2
  ·rw[if_neg e] at el
   have hci:zb (gotF w d.C q).consumers i=zb w.consumers i:=zc2 hj hi e _
   rw[hci] at ho
   exact (ht i hi ho).same (hk ho) (by rw[el]) (by rw[el]) (by rw[el]) (by rw[hci]) (by rw[hci]) (by rw[hci]) (Int.le_refl _)
 ·intro _ hj hon _ _ ho
  by_cases e:i=d.C
  ·have hci:zb (zae8 w d.C).consumers d.C=_:=zec hj _
   rw[e,hci] at ho;cases ho
  ·have hci:zb (zae8 w d.C).consumers i=zb w.consumers i:=zc2 hj hi e _
   have el:ze (zae8 w d.C).p.Links i=_:=zpn (L:=w.p.Links) hj hi
   rw[if_neg e] at el
   rw[hci] at ho
   exact (ht i hi ho).same (hk ho) (by rw[el]) (by rw[el]) (by rw[el]) (by rw[hci]) (by rw[hci]) (by rw[hci]) (Int.le_refl _)
 ·intro q f _ hj hon _ _ _ _ _ ho
  exact (ht i hi (zvy hj hi hon ho)).cons (hk (zvy hj hi hon ho)) hj hi ⟨rfl,rfl,rfl⟩ rfl rfl rfl rfl (Int.le_refl _)
theorem z6w:∀ {l:List Packet} {id:Int},z2c id l→id≤z2b id l
 | [],_,_=>Int.le_refl _
 | q::l,id,h=>by
  have:=z6w (l:=l) h.2
  show id≤z2b q.Id l
  have:=h.1
  omega
theorem zaup {w:Wld} (h:OkW w) (hd:w.deeds < 600) (d:Deed):(doW w d).1.p.Height=w.p.Height∧(doW w d).1.p.Set=w.p.Set∨(doW w d).1.p.Height=w.p.Height+1:=by
 refine zxo h hd d (P:=fun w' r=>w'.p.Height=w.p.Height∧w'.p.Set=w.p.Set∨w'.p.Height=w.p.Height+1) ?_ ?_ ?_ ?_ ?_ ?_ ?_ ?_ ?_ ?_ ?_ ?_ ?_ ?_ ?_
 ·intro w' r a _;rw[a.p];exact .inl ⟨rfl,rfl⟩
 ·intro _ _;exact .inl ⟨rfl,rfl⟩
 ·intro _ _;exact .inl ⟨rfl,rfl⟩
 ·intro _ _;exact .inl ⟨rfl,rfl⟩
 ·intro _ _ _ _;exact .inl ⟨rfl,rfl⟩
 ·intro _ _ _;exact .inl ⟨rfl,rfl⟩
 ·intro _;exact .inr (zor ⟨h.pr,h.pt,by have:=h.t1;omega⟩).1
 ·intro _ _ _ _ _ _;exact .inl ⟨rfl,rfl⟩
 ·intro _ _ _;exact .inl ⟨rfl,rfl⟩
 ·intro _ _ _ _;exact .inl ⟨rfl,rfl⟩
 ·intro _ _ _ _;exact .inl ⟨rfl,rfl⟩
 ·intro q _ _ _ _ _ _;exact .inl ⟨rfl,rfl⟩
 ·intro q _ _ _ _ _ _;exact .inl ⟨rfl,rfl⟩
 ·intro _ _ _ _;exact .inl ⟨rfl,rfl⟩
 ·intro q f _ _ _ _ _ _ _;exact .inl ⟨rfl,rfl⟩
theorem zxp {α:Type} (n:Int) (x:α) (m:Int):∀ l:List (Int×α),zud (z0n n x l) m=if m=n then true else zud l m
 | []=>rfl
 | p::l=>by
  by_cases e:n=p.1
  ·simp only[z0n,if_pos e,zud]
   by_cases k:m=n
   ·rw[if_pos k,if_pos k]
   ·rw[if_neg k,if_neg k,if_neg (by rw[← e];exact k)]
  ·simp only[z0n,if_neg e,zud,zxp n x m l]
   by_cases k:m=n
   ·rw[if_pos k,if_pos k,if_neg (by rw[k];exact e)]
   ·rw[if_neg k,if_neg k]
theorem z6x {α:Type} (d:α) (n:Int) (x:α) (m:Int):∀ l:List (Int×α),z3s d (z0n n x l) m=if m=n then x else z3s d l m
 | []=>rfl
 | p::l=>by
  by_cases e:n=p.1
  ·simp only[z0n,if_pos e,z3s]
   by_cases k:m=n
   ·rw[if_pos k,if_pos k]
   ·rw[if_neg k,if_neg k,if_neg (by rw[← e];exact k)]
  ·simp only[z0n,if_neg e,z3s,z6x d n x m l]
   by_cases k:m=n
   ·rw[if_pos k,if_pos k,if_neg (by rw[k];exact e)]
   ·rw[if_neg k,if_neg k]
theorem zaqa {H:Int→List Power→Prop} {w:Wld} (h:zalt H w):zap8 w:=fun i hi ho=>by
 obtain ⟨ms,h1,-⟩:=h i hi ho
 exact ⟨ms,h1⟩
def zrm (v g:Int):List Wait→Int
 | []=>0
 | w::l=>(if w.V=v∧g < w.Height then w.Amount else 0)+zrm v g l
theorem zadf (v g:Int):∀ (l m:List Wait),zrm v g (l++m)=zrm v g l+zrm v g m
 | [],m=>by show zrm v g m=0+zrm v g m;omega
 | w::l,m=>by simp only[List.cons_append,zrm,zadf v g l m];omega
theorem zaiy {v g:Int}:∀ {l:List Wait},(∀ w,w∈l→0≤w.Amount)→0≤zrm v g l
 | [],_=>Int.le_refl _
 | w::l,h=>by
  have h1:=h w (List.mem_cons_self ..)
  have h2:=zaiy (v:=v) (g:=g) (l:=l) (fun x hx=>h x (List.mem_cons_of_mem _ hx))
  simp only[zrm]
  split<;>omega
theorem z6y (v g:Int) {f:Wait→Wait} (hf:∀ w,(f w).V=w.V∧(f w).Height=w.Height∧(f w).Amount=w.Amount):∀ l:List Wait,zrm v g (l.map f)=zrm v g l
 | []=>rfl
 | w::l=>by
  obtain ⟨h1,h2,h3⟩:=hf w
  simp only[List.map_cons,zrm,h1,h2,h3,z6y v g hf l]
theorem zadg (v g:Int) {f:Wait→Wait} (hf:∀ w,(f w).V=w.V∧(f w).Height=w.Height):∀ {l:List Wait},(∀ w,w∈l→(f w).Amount≤w.Amount)→zrm v g l - zrm v g (l.map f)≤zmp l - zmp (l.map f)
 | [],_=>by simp[zrm,zmp]
 | w::l,h=>by
  obtain ⟨h1,h2⟩:=hf w
  have h3:=h w (List.mem_cons_self ..)
  have h4:=zadg v g hf (l:=l) (fun x hx=>h x (List.mem_cons_of_mem _ hx))
  simp only[List.map_cons,zrm,zmp,h1,h2]
  split<;>omega
theorem z2f {v g:Int} {q:Wait→Bool}:∀ {l:List Wait},(∀ w,w∈l→g < w.Height→q w=true)→zrm v g (l.filter q)=zrm v g l
 | [],_=>rfl
 | w::l,h=>by
  have h1:=h w (List.mem_cons_self ..)
  have h2:=z2f (v:=v) (g:=g) (q:=q) (l:=l) (fun x hx=>h x (List.mem_cons_of_mem _ hx))
  rw[List.filter_cons]
  split
  ·simp only[zrm,h2]
  ·rename_i k
   rw[h2]
   simp only[zrm]
   rw[if_neg (fun z=>k (h1 z.2))];omega
def behS (s:Stake) (v g:Int):Int:=s.Validators.Tokens.get v+s.Validators.Lost.get v+zrm v g s.Waits
def MoreB (s t:Stake) (g:Int):Prop:=∀ v:Int,0≤v∧v < 6→behS s v g≤behS t v g
theorem MoreB.refl (s:Stake) (g:Int):MoreB s s g:=fun _ _=>Int.le_refl _
theorem MoreB.trans {a b c:Stake} {g:Int} (h:MoreB a b g) (k:MoreB b c g):MoreB a c g:=fun v hv=>Int.le_trans (h v hv) (k v hv)
theorem MoreB.of {s t:Stake} {g:Int} (h1:t.Validators.Tokens=s.Validators.Tokens) (h2:t.Validators.Lost=s.Validators.Lost) (h3:∀ v,zrm v g t.Waits=zrm v g s.Waits):MoreB s t g:=fun v _=>by
 unfold behS;rw[h1,h2,h3];exact Int.le_refl _
theorem z6z {s:Stake} {d v n:Int} (h:(zaz s d v n).2=0) (g:Int):MoreB s (zaz s d v n).1 g:=by
 obtain ⟨_,hd,hv,_,hn,_,_,_,_,_,e⟩:=z1q h
 rw[e]
 intro u hu
 show behS s u g≤(s.Validators.Tokens.set v (s.Validators.Tokens.get v+n)).get u+s.Validators.Lost.get u+zrm u g s.Waits
 unfold behS
 rw[zgr _ _ hv hu]
 split
 ·rename_i k;rw[k];omega
 ·omega
theorem z2g {s:Stake} {d v k:Int} {w:Wait} (h:(zaq s d v k w).2=0) {g:Int} (hg:g < w.Height):MoreB s (zaq s d v k w).1 g:=by
 obtain ⟨_,hd,hv,_,_,_,_,_,_,e⟩:=zrg h
 rw[e]
 intro u hu
 show behS s u g≤(s.Validators.Tokens.set v (s.Validators.Tokens.get v - zf2 s v k)).get u+s.Validators.Lost.get u+zrm u g (s.Waits++[outW s d v (zf2 s v k) w])
 unfold behS
 rw[zgr _ _ hv hu,zadf]
 have eb:zrm u g [outW s d v (zf2 s v k) w]=if v=u then zf2 s v k else 0:=by
  show (if v=u∧g < w.Height then zf2 s v k else 0)+0=_
  by_cases z:v=u
  ·rw[if_pos ⟨z,hg⟩,if_pos z];omega
  ·rw[if_neg (fun y=>z y.1),if_neg z];omega
 rw[eb]
 split
 ·rename_i z;rw[z,if_pos rfl];omega
 ·rename_i z;rw[if_neg (fun y=>z y.symm)];omega
theorem zzd (s:Stake) (v what:Int):(za1 s v what).1.Validators.Tokens=s.Validators.Tokens∧(za1 s v what).1.Validators.Lost=s.Validators.Lost:=by
 unfold za1
 repeat' split
 all_goals exact ⟨rfl,rfl⟩
theorem zty (s:Stake) (v what g:Int):MoreB s (za1 s v what).1 g:=.of (zzd s v what).1 (zzd s v what).2 (fun u=>by rw[znz])
theorem zz4 (v h f:Int) (w:Wait):(slW v h f w).V=w.V∧(slW v h f w).Height=w.Height:=by unfold slW;split<;>exact ⟨rfl,rfl⟩
theorem z4m {s:Stake} (hs:GoodS s) {v h:Int} (hv:0≤v∧v < 6) (g:Int):MoreB s (zex s v h 50).1 g:=by
 obtain ⟨_,_,_,_,_,_,_,e,_⟩:=z6l (z4e (h:=h) hs hv)
 rw[e]
 intro u hu
 show behS s u g≤(s.Validators.Tokens.set v (s.Validators.Tokens.get v - zeb s v 50)).get u+(s.Validators.Lost.set v (s.Validators.Lost.get v+(zeb s v 50+z2j v h 50 s.Waits))).get u+zrm u g (s.Waits.map (slW v h 50))
 unfold behS
 rw[zgr _ _ hv hu,zgr _ _ hv hu]
 have hle:∀ w,w∈s.Waits→(slW v h 50 w).Amount≤w.Amount:=by
  intro w hw
  have ha:=(zye hs.2.2.2.1 hw).2.2.2.2.2.2.1
  have hb:=zmq (f:=50) ha (by omega)
  unfold slW
  split
  ·show w.Amount - (zr1 w.Amount 50).1≤_;omega
  ·exact Int.le_refl _
 by_cases z:u=v
 ·rw[if_pos z,if_pos z,z]
  have hc:=zadg v g (zz4 v h 50) hle
  have hn:z2j v h 50 s.Waits=zmp s.Waits - zmp (s.Waits.map (slW v h 50)):=by
   unfold z2j;rw[zaav];omega
  omega
 ·rw[if_neg z,if_neg z]
  have:zrm u g (s.Waits.map (slW v h 50))=zrm u g s.Waits:=by
   have key:∀ l:List Wait,zrm u g (l.map (slW v h 50))=zrm u g l:=by
    intro l
    induction l with
    | nil=>rfl
    | cons w l ih =>
     simp only[List.map_cons,zrm,ih,(zz4 v h 50 w).1,(zz4 v h 50 w).2]
     by_cases k:w.V=u
     ·have:slW v h 50 w=w:=by
       unfold slW hitW
       rw[if_neg (by simp;intro y;exact absurd (k.symm.trans y) z)]
      rw[this]
     ·rw[if_neg (fun y=>k y.1),if_neg (fun y=>k y.1)]
   exact key _
  omega
theorem zze (s:Stake) (c n g:Int):MoreB s (zmj s c n) g:=.of rfl rfl (fun u=>z6y u g (f:=z9h c n) (fun _=>⟨rfl,rfl,rfl⟩) s.Waits)
theorem z9b {p:za} (hg:GoodS p.Stake) {a:Asked} (hv:0≤a.P.V∧a.P.V < 6) (g:Int):MoreB p.Stake (zyi p a).1.Stake g:=by
 unfold zyi
 repeat' split
 ·exact zze _ _ _ _
 ·exact .refl _ _
 ·exact (z4m hg hv g).trans (zty _ _ _ g)
 ·exact .refl _ _
 ·exact zty _ _ _ g
 ·exact .refl _ _
theorem z4n {p0:za} (g:Int):∀ (l:List Asked) (i:Nat) (t:za×A2 Bool×List Asked),z6m p0 i t→(∀ a,a∈l→(0≤a.C∧a.C < 2)∧a∈p0.Queue∧(0≤a.P.V∧a.P.V < 6))→MoreB t.1.Stake (l.foldl zvu t).1.Stake g
 | [],_,_,_,_=>.refl _ _
 | a::l,i,t,h,ha=>by
  obtain ⟨a1,a2,a3⟩:=ha a (List.mem_cons_self ..)
  refine MoreB.trans ?_ (z4n g l (i+1) (zvu t a) (z6n h a1 a2) (fun b hb=>ha b (List.mem_cons_of_mem _ hb)))
  unfold zvu
  repeat' split
  ·exact .refl _ _
  ·exact z9b h.1.good a3 g
  ·exact z9b h.1.good a3 g
theorem zafb {p:za} (hg:z8 p=true) (now g:Int):MoreB p.Stake (zdg p now).1.Stake g:=z4n (p0:=zny p now) g p.Queue 0 _ (zabi hg) (zaum hg)
theorem zalu {p:za} {now g:Int} (h:z8 p=true∧p.Time≤now∧now≤1099511627776) (hx:∀ x,x∈(zdg p now).1.Stake.Waits→g < x.Height→z34 now x=false):MoreB p.Stake (zgs p now).1.Stake g:=by
 refine (zafb h.1 now g).trans (.of ?_ ?_ (fun v=>?_))
 ·rw[zadd h]
 ·rw[zadd h]
 ·rw[z9a h]
  exact z2f (fun x hx' hg=>by rw[hx x hx' hg];rfl)
def KeepK (i m:Int) (W W':List Wait):Prop:=∀ x,x∈W'→∃ y,y∈W∧x.Height=y.Height∧(m < hN y i→hN x i=hN y i)
theorem KeepK.refl (i m:Int) (W:List Wait):KeepK i m W W:=fun x hx=>⟨x,hx,rfl,fun _=>rfl⟩
theorem KeepK.trans {i m:Int} {A B C:List Wait} (h:KeepK i m A B) (k:KeepK i m B C):KeepK i m A C:=fun x hx=>by
 obtain ⟨y,hy,e1,e2⟩:=k x hx
 obtain ⟨z,hz,e3,e4⟩:=h y hy
 exact ⟨z,hz,e1.trans e3,fun hm=>by have:=e4 hm;rw[e2 (by omega),this]⟩
theorem KeepK.map {i m:Int} {W:List Wait} {f:Wait→Wait} (hf:∀ x,(f x).Height=x.Height∧(m < hN x i→hN (f x) i=hN x i)):KeepK i m W (W.map f):=fun x hx=>by
 obtain ⟨y,hy,rfl⟩:=List.mem_map.1 hx
 exact ⟨y,hy,(hf y).1,(hf y).2⟩
theorem za0b (v h f:Int) (x:Wait) (i:Int):hN (slW v h f x) i=hN x i:=by unfold slW;split<;>rfl
theorem z4o (i m:Int) (s:Stake) (v h f:Int):KeepK i m s.Waits (zex s v h f).1.Waits:=by
 unfold zex
 repeat' split
 ·exact .refl _ _ _
 ·exact .refl _ _ _
 ·exact KeepK.map (fun x=>⟨(zz4 v h f x).2,fun _=>za0b v h f x i⟩)
theorem z9c {i m:Int} (hi:0≤i∧i < 2) (p:za) {a:Asked} (ha:a.C=i→a.P.Kind=2→a.P.Id≤m):KeepK i m p.Stake.Waits (zyi p a).1.Stake.Waits:=by
 unfold zyi
 split
 ·rename_i k
  refine KeepK.map (fun x=>⟨rfl,fun hm=>?_⟩)
  rw[zamx hi,if_neg]
  rintro ⟨z1,z2⟩
  have:=ha z1 k
  omega
 ·repeat' split
  ·exact .refl _ _ _
  ·show KeepK i m _ (za1 (zex p.Stake a.P.V (zaub p a) 50).1 a.P.V 2).1.Waits
   rw[znz];exact z4o _ _ _ _ _ _
  ·exact .refl _ _ _
  ·show KeepK i m _ (za1 p.Stake a.P.V 0).1.Waits
   rw[znz];exact .refl _ _ _
  ·exact .refl _ _ _
theorem z4p {i m:Int} (hi:0≤i∧i < 2):∀ (l:List Asked) (t:za×A2 Bool×List Asked),(∀ a,a∈l→a.C=i→a.P.Kind=2→a.P.Id≤m)→KeepK i m t.1.Stake.Waits (l.foldl zvu t).1.Stake.Waits
 | [],_,_=>.refl _ _ _
 | a::l,t,h=>by
  refine KeepK.trans ?_ (z4p hi l (zvu t a) (fun b hb=>h b (List.mem_cons_of_mem _ hb)))
  unfold zvu
  repeat' split
  ·exact .refl _ _ _
  ·exact z9c hi _ (h a (List.mem_cons_self ..))
  ·exact z9c hi _ (h a (List.mem_cons_self ..))
structure BackI (w:Wld) (i:Int):Prop where
 held:∀ x,x∈w.p.Stake.Waits→(zb w.consumers i).Id < x.Height→hN x i=x.Height
 queue:∀ a,a∈w.p.Queue→a.C=i→a.P.Kind=2→a.P.Id≤(zb w.consumers i).Id
 said:∀ q,zcz q=0→q.Kind=2→pkT q∈(zb w.consumers i).Out.Said→q.Id≤(zb w.consumers i).Id
 ripes:∀ r,r∈(zb w.consumers i).Ripes→r.Id≤(zb w.consumers i).Id
def zabj (w:Wld):Prop:=∀ i:Int,0≤i∧i < 2→(zb w.consumers i).On=true→BackI w i
theorem BackI.mono {w w':Wld} {i:Int} (h:BackI w i) (hI:(zb w.consumers i).Id≤(zb w'.consumers i).Id) (hW:∀ x,x∈w'.p.Stake.Waits→(∃ y,y∈w.p.Stake.Waits∧x.Height=y.Height∧((zb w.consumers i).Id < hN y i→hN x i=hN y i))∨hN x i=x.Height)
  (hQ:∀ a,a∈w'.p.Queue→a.C=i→a.P.Kind=2→a∈w.p.Queue∨a.P.Id≤(zb w'.consumers i).Id)
  (hS:∀ q,zcz q=0→q.Kind=2→pkT q∈(zb w'.consumers i).Out.Said→pkT q∈(zb w.consumers i).Out.Said∨q.Id≤(zb w'.consumers i).Id)
  (hR:∀ r,r∈(zb w'.consumers i).Ripes→r∈(zb w.consumers i).Ripes∨r.Id≤(zb w'.consumers i).Id):BackI w' i:=by
 obtain ⟨a1,a2,a3,a4⟩:=h
 refine ⟨fun x hx hlt=>?_,fun a ha hc hk=>?_,fun q hg hk hq=>?_,fun r hr=>?_⟩
 ·rcases hW x hx with ⟨y,hy,e1,e2⟩ | e
  ·have e3:=a1 y hy (by omega)
   rw[e2 (by omega),e3,e1]
  ·exact e
 ·rcases hQ a ha hc hk with z | z
  ·have:=a2 a z hc hk;omega
  ·exact z
 ·rcases hS q hg hk hq with z | z
  ·have:=a3 q hg hk z;omega
  ·exact z
 ·rcases hR r hr with z | z
  ·have:=a4 r z;omega
  ·exact z
theorem zb9 {w w':Wld} {i m:Int} (h:w'.p.Stake.Waits=w.p.Stake.Waits):∀ x,x∈w'.p.Stake.Waits→(∃ y,y∈w.p.Stake.Waits∧x.Height=y.Height∧(m < hN y i→hN x i=hN y i))∨hN x i=x.Height :=
 fun x hx=>.inl ⟨x,by rw[← h];exact hx,rfl,fun _=>rfl⟩
theorem z4q {w:Wld} (h:OkW w) (hb:zabj w) {i:Int} (hi:0≤i∧i < 2) (ho:(zb w.consumers i).On=true):KeepK i (zb w.consumers i).Id w.p.Stake.Waits (zdg w.p w.clock).1.Stake.Waits :=
 z4p hi w.p.Queue (zny w.p w.clock,⟨false,false⟩,[]) (fun a ha hc hk=>(hb i hi ho).queue a ha hc hk)
theorem zaqb {w:Wld} (h:OkW w) (hb:zabj w) {i:Int} (hi:0≤i∧i < 2) (ho:(zb w.consumers i).On=true) {x:Wait} (hx:x∈(zdg w.p w.clock).1.Stake.Waits) (hl:(zb w.consumers i).Id < x.Height):z34 w.clock x=false:=by
 obtain ⟨y,hy,e1,e2⟩:=z4q h hb hi ho x hx
 have e3:=(hb i hi ho).held y hy (by omega)
 have e4:=e2 (by omega)
 have i0:=(zbt (h.c i hi).good).1.2.2.2.2.2.1
 have hp:0 < hN x i:=by omega
 unfold z34
 rcases (show i=0∨i=1 by omega) with rfl | rfl
 ·have hp:0 < x.h0:=hp
  have:(x.h0==0)=false:=by simp;omega
  rw[this];simp
 ·have hp:0 < x.h1:=hp
  have:(x.h1==0)=false:=by simp;omega
  rw[this];simp
theorem z9d:∀ {l:List Packet} {id:Int},z2c id l→∀ q,q∈l→q.Id≤z2b id l
 | [],_,_,q,h=>by cases h
 | p::l,id,hr,q,h=>by
  show q.Id≤z2b p.Id l
  rcases List.mem_cons.1 h with rfl | h
  ·exact z6w hr.2
  ·exact z9d hr.2 q h
theorem BackI.other {w w':Wld} {i:Int} (h:BackI w i) (hc:zb w'.consumers i=zb w.consumers i) (hW:∀ x,x∈w'.p.Stake.Waits→(∃ y,y∈w.p.Stake.Waits∧x.Height=y.Height∧((zb w.consumers i).Id < hN y i→hN x i=hN y i))∨hN x i=x.Height)
  (hQ:∀ a,a∈w'.p.Queue→a.C=i→a∈w.p.Queue):BackI w' i :=
 h.mono (by rw[hc];exact Int.le_refl _) hW (fun a ha hc _=>.inl (hQ a ha hc)) (fun q _ _ hq=>by rw[hc] at hq;exact .inl hq) (fun r hr=>by rw[hc] at hr;exact .inl hr)
theorem zaqc {w:Wld} (h:OkW w) (hd:w.deeds < 600) (ht:zap8 w) (hb:zabj w) (d:Deed):zabj (doW w d).1:=by
 intro i hi
 have on':∀ {j:Int} {c:zc},(0≤j∧j < 2)→(zb w.consumers j).On=true→(zb (zla w.consumers j c) i).On=true→(zb w.consumers i).On=true:=fun hj hon ho=>zvy hj hi hon ho
 refine zxo h hd d (P:=fun w' r=>(zb w'.consumers i).On=true→BackI w' i) ?_ ?_ ?_ ?_ ?_ ?_ ?_ ?_ ?_ ?_ ?_ ?_ ?_ ?_ ?_
 ·intro w' r a _ ho
  rw[a.c] at ho
  exact (hb i hi ho).other (by rw[a.c]) (zb9 (by rw[a.p])) (fun b hb' _=>by rw[a.p] at hb';exact hb')
 ·intro _ _ ho;exact (hb i hi ho).other rfl (zb9 (z3d _ _ _ _)) (fun b hb' _=>hb')
 ·intro _ k0 ho
  obtain ⟨_,_,_,_,_,_,_,_,_,e⟩:=zrg k0
  rw[e]
  refine (hb i hi ho).other rfl (fun x hx=>?_) (fun b hb' _=>hb')
  have hx:x∈w.p.Stake.Waits++[_]:=hx
  rcases List.mem_append.1 hx with hx | hx
  ·exact .inl ⟨x,hx,rfl,fun _=>rfl⟩
  ·have hx:=List.mem_singleton.1 hx
   subst hx
   right
   have on:w.p.Links.On.get i=true:=by rw[← (h.c i hi).on];exact ho
   rcases (show i=0∨i=1 by omega) with rfl | rfl
   ·show (if w.p.Links.On.x0=true then w.p.Height+1 else 0)=w.p.Height+1
    exact if_pos on
   ·show (if w.p.Links.On.x1=true then w.p.Height+1 else 0)=w.p.Height+1
    exact if_pos on
 ·intro _ _ ho;exact (hb i hi ho).other rfl (zb9 (znz _ _ _)) (fun b hb' _=>hb')
 ·intro _ _ _ _ ho
  refine (hb i hi ho).other rfl (fun x hx=>?_) (fun b hb' _=>hb')
  have hx:x∈(za1 (zex w.p.Stake d.V d.N 50).1 d.V 2).1.Waits:=hx
  rw[znz] at hx
  exact .inl (z4o i (zb w.consumers i).Id w.p.Stake d.V d.N 50 x hx)
 ·intro _ _ _ ho;exact (hb i hi ho).other rfl (zb9 rfl) (fun b hb' _=>hb')
 ·intro _ ho
  have hg:=zals h
  refine (hb i hi ho).other rfl (fun x hx=>?_) (fun b hb' _=>?_)
  ·have hx:x∈(zgs w.p w.clock).1.Stake.Waits:=hx
   rw[z9a hg] at hx
   exact .inl (z4q h hb hi ho x (List.mem_filter.1 hx).1)
  ·have hb':b∈(zgs w.p w.clock).1.Queue:=hb'
   rw[(zor hg).2.2.2.2.1] at hb'
   exact (zqc (now:=w.clock) hg.1).2.2.2 b hb'
 ·intro _ hj _ hno _ _ ho
  rcases zil (C:=w.consumers) hj hi (zlz w.p.Set w.p.Height w.clock) with ⟨e,ec⟩ | ⟨e,ec⟩
  ·subst e
   have ec:zb (zabg w d.C).consumers d.C=zlz w.p.Set w.p.Height w.clock:=ec
   refine ⟨fun x hx hl=>?_,fun a ha hc _=>?_,fun q _ _ hq=>?_,fun r hr=>?_⟩
   ·have hx:x∈w.p.Stake.Waits.map (zdh d.C w.p.Height):=hx
    obtain ⟨y,hy,rfl⟩:=List.mem_map.1 hx
    have eh:(zdh d.C w.p.Height y).Height=y.Height:=by unfold zdh;split<;>rfl
    rw[ec,eh] at hl
    have hl:w.p.Height < y.Height:=hl
    rw[zade hi,if_pos ⟨hl,rfl⟩,eh]
   ·exfalso
    have:=(h.p.ask (show a∈w.p.Queue from ha)).2.1
    rw[hc,hno] at this;cases this
   ·rw[ec] at hq;cases hq
   ·rw[ec] at hr;cases hr
  ·have ec:zb (zabg w d.C).consumers i=zb w.consumers i:=ec
   rw[ec] at ho
   refine (hb i hi ho).other ec (fun x hx=>?_) (fun b hb' _=>hb')
   have hx:x∈w.p.Stake.Waits.map (zdh d.C w.p.Height):=hx
   obtain ⟨y,hy,rfl⟩:=List.mem_map.1 hx
   refine .inl ⟨y,hy,by unfold zdh;split<;>rfl,fun _=>?_⟩
   rw[zade hi,if_neg (fun z=>e z.2.symm)]
 ·intro _ hj hon ho
  rcases zil (C:=w.consumers) hj hi (zxh w.clock (zb w.consumers d.C)).1 with ⟨e,ec⟩ | ⟨e,ec⟩
  ·subst e
   have ec:zb (zn5 w d.C).consumers d.C=(zxh w.clock (zb w.consumers d.C)).1:=ec
   obtain ⟨k,R,eR,hk,f1,f2,f3,f4,f5,f6,f7,f8,-⟩:=zae9 h hd hj hon
   obtain ⟨ms,⟨a1,a2,a3,a4,a5,a6⟩⟩:=ht d.C hj hon
   have r1:=(rises_app.1 a3).1
   have hid:=z6w r1
   have hR:∀ r,r∈R→r∈(zb w.consumers d.C).Ripes∨r.Id≤(zb (zn5 w d.C).consumers d.C).Id:=by
    intro r hr
    rw[eR] at hr
    rcases List.mem_append.1 hr with hr | hr
    ·exact .inl hr
    ·obtain ⟨p,hp,rfl⟩:=List.mem_map.1 hr
     right
     rw[ec,f8]
     exact z9d r1 p hp
   refine (hb d.C hj hon).mono (by rw[ec,f8];exact hid) (zb9 rfl) (fun a ha _ _=>.inl ha) (fun q hg hq2 hq=>?_) (fun r hr=>?_)
   ·rw[ec,f3] at hq
    rcases List.mem_append.1 (show pkT q∈(zb w.consumers d.C).Out.Said++(R.take k).map matT from hq) with hq | hq
    ·exact .inl hq
    ·right
     obtain ⟨r,hr,e⟩:=List.mem_map.1 hq
     have hrR:=List.mem_of_mem_take hr
     have e:pkT (matP r)=pkT q:=e
     have eq:=zabh (z16 (f6 r hrR)) hg e
     rcases hR r hrR with z | z
     ·have:=(hb d.C hj hon).ripes r z
      rw[← eq,ec,f8]
      show r.Id≤_
      omega
     ·rw[← eq];exact z
   ·rw[ec,f2] at hr
    exact hR r (List.mem_of_mem_drop hr)
  ·have ec:zb (zn5 w d.C).consumers i=zb w.consumers i:=ec
   rw[ec] at ho
   exact (hb i hi ho).other ec (zb9 rfl) (fun b hb' _=>hb')
 ·intro _ hj _ _ ho
  exact (hb i hi ho).other rfl (zb9 rfl) (fun b hb' _=>hb')
 ·intro _ hj hon _ ho
  have hoi:=on' hj hon ho
  rcases zil (C:=w.consumers) hj hi { zb w.consumers d.C with Seen:=zali w.heads d.C } with ⟨e,ec⟩ | ⟨e,ec⟩
  ·have ec:zb (z88 w d.C { zb w.consumers d.C with Seen:=zali w.heads d.C }).consumers i=_:=ec
   exact (hb i hi hoi).mono (by rw[ec,e];exact Int.le_refl _) (zb9 rfl) (fun a ha _ _=>.inl ha) (fun q _ _ hq=>by rw[ec] at hq;rw[e];exact .inl hq) (fun r hr=>by rw[ec] at hr;rw[e];exact .inl hr)
  ·exact (hb i hi hoi).other ec (zb9 rfl) (fun b hb' _=>hb')
 ·intro q _ hj hon _ hcm _ ho
  have hoi:=on' hj hon ho
  have tx:(zb w.consumers d.C).Out.Said.getD (zb w.consumers d.C).Out.Got.toNat .empty=pkT q:=hcm.text
  have hm:=zf0 (l:=(zb w.consumers d.C).Out.Said) (k:=(zb w.consumers d.C).Out.Got.toNat) hcm.got .empty
  rw[tx] at hm
  have hQ:∀ a,a∈(gotB w d.C q).p.Queue→a.C=i→a.P.Kind=2→a∈w.p.Queue∨(i=d.C∧a.P.Id≤(zb w.consumers d.C).Id):=by
   intro a ha hc hk
   rcases List.mem_append.1 (show a∈w.p.Queue++[⟨d.C,q⟩] from ha) with z | z
   ·exact .inl z
   ·have z:=List.mem_singleton.1 z
    subst z
    exact .inr ⟨hc.symm,(hb d.C hj hon).said q hcm.pk hk hm⟩
  rcases zil (C:=w.consumers) hj hi { zb w.consumers d.C with Out:={ (zb w.consumers d.C).Out with Got:=(zb w.consumers d.C).Out.Got+1 } } with ⟨e,ec⟩ | ⟨e,ec⟩
  ·have ec:zb (gotB w d.C q).consumers i=_:=ec
   refine (hb i hi hoi).mono (by rw[ec,e];exact Int.le_refl _) (zb9 rfl) (fun a ha hc hk=>?_) (fun q _ _ hq=>by rw[ec] at hq;rw[e];exact .inl hq) (fun r hr=>by rw[ec] at hr;rw[e];exact .inl hr)
   rcases hQ a ha hc hk with z | ⟨_,z⟩
   ·exact .inl z
   ·right;rw[ec];exact z
  ·have ec:zb (gotB w d.C q).consumers i=zb w.consumers i:=ec
   refine (hb i hi hoi).mono (by rw[ec];exact Int.le_refl _) (zb9 rfl) (fun a ha hc hk=>?_) (fun q _ _ hq=>by rw[ec] at hq;exact .inl hq) (fun r hr=>by rw[ec] at hr;exact .inl hr)
   rcases hQ a ha hc hk with z | ⟨z,_⟩
   ·exact .inl z
   ·exact absurd z e
 ·intro q _ hj hon _ _ _ ho
  have hoi:=on' hj hon ho
  rcases zil (C:=w.consumers) hj hi { zb w.consumers d.C with Pending:=(zb w.consumers d.C).Pending++[q] } with ⟨e,ec⟩ | ⟨e,ec⟩
  ·have ec:zb (gotF w d.C q).consumers i=_:=ec
   exact (hb i hi hoi).mono (by rw[ec,e];exact Int.le_refl _) (zb9 rfl) (fun a ha _ _=>.inl ha) (fun q _ _ hq=>by rw[ec] at hq;rw[e];exact .inl hq) (fun r hr=>by rw[ec] at hr;rw[e];exact .inl hr)
  ·exact (hb i hi hoi).other ec (zb9 rfl) (fun b hb' _=>hb')
 ·intro _ hj hon _ ho
  rcases zil (C:=w.consumers) hj hi { zb w.consumers d.C with On:=false,Gone:=true,Out:={ (zb w.consumers d.C).Out with Closed:=true } } with ⟨e,ec⟩ | ⟨e,ec⟩
  ·have ec:zb (zae8 w d.C).consumers i=_:=ec
   rw[ec] at ho;cases ho
  ·have ec:zb (zae8 w d.C).consumers i=zb w.consumers i:=ec
   rw[ec] at ho
   refine (hb i hi ho).other ec (fun x hx=>?_) (fun b hb' _=>(List.mem_filter.1 (show b∈w.p.Queue.filter (zzq d.C) from hb')).1)
   have hx:x∈w.p.Stake.Waits.map (z9h d.C 1099511627776):=hx
   obtain ⟨y,hy,rfl⟩:=List.mem_map.1 hx
   refine .inl ⟨y,hy,rfl,fun _=>?_⟩
   rw[zamx hi,if_neg (fun z=>e z.1.symm)]
 ·intro q f _ hj hon hg hk _ _ ho
  have hoi:=on' hj hon ho
  rcases zil (C:=w.consumers) hj hi (zap5 w d.C q f) with ⟨e,ec⟩ | ⟨e,ec⟩
  ·have ec:zb (z88 w d.C (zap5 w d.C q f)).consumers i=_:=ec
   refine (hb i hi hoi).mono (by rw[ec,e];exact Int.le_refl _) (zb9 rfl) (fun a ha _ _=>.inl ha) (fun p hp hp2 hq=>?_) (fun r hr=>by rw[ec] at hr;rw[e];exact .inl hr)
   rw[ec] at hq
   rcases List.mem_append.1 (show pkT p∈(zb w.consumers d.C).Out.Said++[txt (zn0 q)] from hq) with z | z
   ·rw[e];exact .inl z
   ·have z:pkT p=pkT q:=List.mem_singleton.1 z
    have z:=zabh hp hg z
    subst z
    rcases hk with ⟨k,-⟩ | ⟨k,-⟩<;>omega
  ·exact (hb i hi hoi).other ec (zb9 rfl) (fun b hb' _=>hb')
theorem zalv:zabj newW:=by
 intro i hi ho
 rcases (show i=0∨i=1 by omega) with rfl | rfl<;>cases ho
theorem zaqd {w:Wld} (h:OkW w) (hd:w.deeds < 600) (hb:zabj w) (d:Deed) {g:Int} (hg:g≤w.p.Height) (hx:d.Kind=6→∃ i:Int,(0≤i∧i < 2)∧(zb w.consumers i).On=true∧(zb w.consumers i).Id≤g):MoreB w.p.Stake (doW w d).1.p.Stake g:=by
 refine zxo h hd d (P:=fun w' r=>MoreB w.p.Stake w'.p.Stake g) ?_ ?_ ?_ ?_ ?_ ?_ ?_ ?_ ?_ ?_ ?_ ?_ ?_ ?_ ?_
 ·intro w' r a _;rw[a.p];exact .refl _ _
 ·intro _ k0;exact z6z k0 g
 ·intro _ k0;exact z2g k0 (by show g < w.p.Height+1;omega)
 ·intro _ _;exact zty _ _ _ g
 ·intro _ hv _ _;exact (z4m h.p.1 hv g).trans (zty _ _ _ g)
 ·intro _ _ _;exact .refl _ _
 ·intro k
  obtain ⟨i,hi,ho,hid⟩:=hx k
  exact zalu (zals h) (fun x hx' hlt=>zaqb h hb hi ho hx' (by omega))
 ·intro _ _ _ _ _ _
  exact .of rfl rfl (fun u=>z6y u g (f:=zdh d.C w.p.Height) (fun x=>by unfold zdh;split<;>exact ⟨rfl,rfl,rfl⟩) w.p.Stake.Waits)
 ·intro _ _ _;exact .refl _ _
 ·intro _ _ _ _;exact .refl _ _
 ·intro _ _ _ _;exact .refl _ _
 ·intro q _ _ _ _ _ _;exact .refl _ _
 ·intro q _ _ _ _ _ _;exact .refl _ _
 ·intro _ _ _ _;exact zze _ _ _ _
 ·intro q f _ _ _ _ _ _ _;exact .refl _ _
theorem zabk {w:Wld} (h:OkW w) (hd:w.deeds < 600) {d:Deed} (k6:d.Kind≠6):¬ (doW w d).1.p.Height=w.p.Height+1:=by
 have:(doW w d).1.p.Height=w.p.Height:=by
  refine zxo h hd d (P:=fun w' r=>w'.p.Height=w.p.Height) ?_ ?_ ?_ ?_ ?_ ?_ ?_ ?_ ?_ ?_ ?_ ?_ ?_ ?_ ?_
  ·intro w' r a _;rw[a.p]
  ·intro _ _;rfl
  ·intro _ _;rfl
  ·intro _ _;rfl
  ·intro _ _ _ _;rfl
  ·intro _ _ _;rfl
  ·intro k;exact absurd k k6
  ·intro _ _ _ _ _ _;rfl
  ·intro _ _ _;rfl
  ·intro _ _ _ _;rfl
  ·intro _ _ _ _;rfl
  ·intro q _ _ _ _ _ _;rfl
  ·intro q _ _ _ _ _ _;rfl
  ·intro _ _ _ _;rfl
  ·intro q f _ _ _ _ _ _ _;rfl
 omega
def zt7 (M:List (Int×A6 Int)) (g:Int):A6 Int:=z3s default M g
def z2h (w:Wld) (M:List (Int×A6 Int)) (g:Int) (s:List Power):Prop:=zud M g=true∧∀ y,y∈s→(0≤y.V∧y.V < 6)∧y.N*100≤behS w.p.Stake y.V g - (zt7 M g).get y.V
structure zafc (w:Wld) (M:List (Int×A6 Int)):Prop where
 sets:zalt (z2h w M) w
 back:zabj w
 top:∀ n,zud M n=true→n≤w.p.Height
 cur:zud M w.p.Height=true→z2h w M w.p.Height w.p.Set
 none:zud M w.p.Height=true∨w.p.Set=[]
 bnd:∀ n,zud M n=true→∀ v:Int,0≤v∧v < 6→0≤(zt7 M n).get v∧(zt7 M n).get v≤1125899906842624
def zrn (w:Wld) (M:List (Int×A6 Int)):List (Int×A6 Int):=if zud M w.p.Height=true then M else z0n w.p.Height w.p.Stake.Validators.Lost M
theorem z2i (w:Wld) (M:List (Int×A6 Int)):zud (zrn w M) w.p.Height=true:=by
 unfold zrn
 split
 ·assumption
 ·rw[zxp,if_pos rfl]
theorem z9e (w:Wld) {M:List (Int×A6 Int)} {n:Int} (h:zud M n=true):zud (zrn w M) n=true∧zt7 (zrn w M) n=zt7 M n:=by
 unfold zrn zt7
 split
 ·exact ⟨h,rfl⟩
 ·rename_i k
  have:n≠w.p.Height:=fun e=>k (by rw[← e];exact h)
  rw[zxp,z6x,if_neg this,if_neg this]
  exact ⟨h,rfl⟩
theorem z4r {w:Wld} {M:List (Int×A6 Int)} (h:¬ zud M w.p.Height=true):zt7 (zrn w M) w.p.Height=w.p.Stake.Validators.Lost:=by
 unfold zrn zt7
 rw[if_neg h,z6x,if_pos rfl]
theorem zaiz {s:Stake} (h:GoodS s):∀ x,x∈s.Waits→inA x.Amount:=fun x hx=>(zye h.2.2.2.1 hx).2.2.2.2.2.2.1
theorem zaqe {s:Stake} (h:GoodS s) {v g:Int}:0≤zrm v g s.Waits:=zaiy (fun x hx=>(zaiz h x hx).1)
theorem zalw {w:Wld} (h:OkW w) (hd:w.deeds < 600) {M:List (Int×A6 Int)} (hj:zafc w M) (d:Deed):zafc (doW w d).1 (zrn (doW w d).1 M):=by
 obtain ⟨j1,j2,j3,j4,j5,j6⟩:=hj
 have ho:=z4k h d
 have hs:=zaup h hd d
 have ht:=zaqa j1
 have up:∀ {n:Int} {s:List Power},(d.Kind=6→∃ i:Int,(0≤i∧i < 2)∧(zb w.consumers i).On=true∧(zb w.consumers i).Id≤n)→z2h w M n s→z2h (doW w d).1 (zrn (doW w d).1 M) n s:=by
  rintro n s hx ⟨k1,k2⟩
  obtain ⟨e1,e2⟩:=z9e (doW w d).1 k1
  refine ⟨e1,fun y hy=>?_⟩
  obtain ⟨z1,z2⟩:=k2 y hy
  have:=zaqd h hd j2 d (j3 n k1) hx y.V z1
  rw[e2]
  exact ⟨z1,by omega⟩
 have cur:z2h (doW w d).1 (zrn (doW w d).1 M) (doW w d).1.p.Height (doW w d).1.p.Set:=by
  by_cases k6:d.Kind=6
  ·have eb:=zalr h hd k6
   have hnew:¬ zud M (doW w d).1.p.Height=true:=by
    intro z
    have:=j3 _ z
    have r1:(zxn w).p.Height=w.p.Height+1:=(zor (zals h)).1
    rw[eb,r1] at this;omega
   refine ⟨z2i _ _,fun y hy=>?_⟩
   rw[z4r hnew]
   have hset:(doW w d).1.p.Set=setS (doW w d).1.p.Stake:=by rw[eb];exact zaix h
   rw[hset] at hy
   obtain ⟨m1,m2,m3,m4⟩:=zacs ho.p.1 hy
   refine ⟨m1,?_⟩
   have:=zaqe ho.p.1 (v:=y.V) (g:=(doW w d).1.p.Height)
   unfold behS
   omega
  ·have hsame:(doW w d).1.p.Height=w.p.Height∧(doW w d).1.p.Set=w.p.Set:=by
    rcases hs with z | z
    ·exact z
    ·exact absurd z (zabk h hd k6)
   rw[hsame.1,hsame.2]
   by_cases hm:zud M w.p.Height=true
   ·exact up (fun z=>absurd z k6) (j4 hm)
   ·refine ⟨by have:=z2i (doW w d).1 M;rw[hsame.1] at this;exact this,fun y hy=>?_⟩
    rcases j5 with z | z
    ·exact absurd z hm
    ·rw[z] at hy;cases hy
 refine ⟨zap9 h hd j1 d (fun i hi hon n s hn k=>up (fun _=>⟨i,hi,hon,hn⟩) k) cur,zaqc h hd ht j2 d,fun n hn=>?_,fun _=>cur,.inl (z2i _ _),fun n hn v hv=>?_⟩
 ·unfold zrn at hn
  split at hn
  ·have:=j3 n hn
   rcases hs with ⟨z,-⟩ | z<;>omega
  ·rw[zxp] at hn
   split at hn
   ·rename_i e;rw[e];exact Int.le_refl _
   ·have:=j3 n hn
    rcases hs with ⟨z,-⟩ | z<;>omega
 ·by_cases hm:zud M n=true
  ·rw[(z9e (doW w d).1 hm).2];exact j6 n hm v hv
  ·have e:n=(doW w d).1.p.Height:=by
    unfold zrn at hn
    split at hn
    ·exact absurd hn hm
    ·rw[zxp] at hn
     split at hn
     ·assumption
     ·exact absurd hn hm
   subst e
   rw[z4r hm]
   exact (ho.p.1.at hv).1.2.2.1
theorem zai0:zafc newW []:=by
 refine ⟨fun i hi ho=>?_,zalv,fun n hn=>(by cases hn),fun hn=>(by cases hn),.inr rfl,fun n hn=>(by cases hn)⟩
 rcases (show i=0∨i=1 by omega) with rfl | rfl<;>cases ho
theorem zaqf {w:Wld} {M:List (Int×A6 Int)}:zgf (vsA w.p.Stake) 0 w M w.p ⟨0,0,0,0,0,0⟩=some (w,M,w.p,w.p.Stake.Validators.Lost):=by
 have turn:∀ (i:Nat) (t:A6 Int),i < 6→(za5 (vsA w.p.Stake) (i:Int) w M w.p t).run=some (.inl (vsA w.p.Stake,((i+1:Nat):Int),w,M,w.p,t.set (i:Int) (w.p.Stake.Validators.Lost.get (i:Int)))):=by
  intro i t hi
  simp only[za5]
  rw[Tr.rt (by simp;omega),Tr.rg ⟨by omega,by omega⟩,Tr.rg ⟨by omega,by omega⟩,Tr.rl,zw (by omega)]
  rfl
 have step:∀ (i:Nat) (t:A6 Int),i < 6→zde (fun s:(A6 zh)×Int×Wld×(List (Int×(A6 Int)))×za×(A6 Int)=>(za5 s.1 s.2.1 s.2.2.1 s.2.2.2.1 s.2.2.2.2.1 s.2.2.2.2.2).run) (vsA w.p.Stake,(i:Int),w,M,w.p,t) =
   zde (fun s:(A6 zh)×Int×Wld×(List (Int×(A6 Int)))×za×(A6 Int)=>(za5 s.1 s.2.1 s.2.2.1 s.2.2.2.1 s.2.2.2.2.1 s.2.2.2.2.2).run) (vsA w.p.Stake,((i+1:Nat):Int),w,M,w.p,t.set (i:Int) (w.p.Stake.Validators.Lost.get (i:Int))) :=
  fun i t hi=>zbs (turn i t hi)
 rw[zgf]
 refine (step 0 _ (by omega)).trans ((step 1 _ (by omega)).trans ((step 2 _ (by omega)).trans ((step 3 _ (by omega)).trans ((step 4 _ (by omega)).trans ((step 5 _ (by omega)).trans ?_)))))
 refine zda ?_
 simp only[za5]
 rw[Tr.rf (by simp),Tr.rl]
 rfl
theorem zabl {c:Int} {S:List Power} {k3 k4:Int} {w:Wld} {M:List (Int×A6 Int)} {p:za} {x:zc} {y:Power}:∀ (m:List Wait) {l:List Wait} {k:Nat} {n:Int},l.drop k=m→k≤l.length→l.length≤60→(∀ u,u∈m→inA u.Amount) →
  -4503599627370496≤n→n+(m.length:Int)*1125899906842624≤288230376151711744→zbi c n S k3 k4 l ((l.length:Nat):Int) (k:Int) w M p x y=some (c,n+zrm y.V x.Id m,S,k3,k4,w,M,p,x,y)
 | [],l,k,n,e,hk,hl,ha,h0,h1=>by
  have:l.length≤k:=List.drop_eq_nil_iff.1 e
  rw[zbi]
  refine zda ?_
  simp only[zbx]
  rw[Tr.rf (by simp;omega),Tr.rl]
  rw[show zrm y.V x.Id []=0 from rfl,Int.add_zero]
 | u::m,l,k,n,e,hk,hl,ha,h0,h1=>by
  have hlt:k < l.length:=by
   rcases Nat.lt_or_ge k l.length with h | h
   ·exact h
   ·rw[List.drop_eq_nil_iff.2 h] at e;cases e
  rw[zat hlt default] at e
  obtain ⟨e1,e2⟩:=List.cons.inj e
  have hu:=ha u (List.mem_cons_self ..)
  have hu0:=hu.1;have hu1:=hu.2
  have hlen:((u::m).length:Int)=(m.length:Int)+1:=by simp
  rw[hlen] at h1
  have hmul:((m.length:Int)+1)*1125899906842624=(m.length:Int)*1125899906842624+1125899906842624:=by rw[Int.add_mul,Int.one_mul]
  rw[hmul] at h1
  have hm0:0≤(m.length:Int)*1125899906842624:=Int.mul_nonneg (by omega) (by omega)
  generalize hP:(m.length:Int)*1125899906842624=P at h1 hm0
  by_cases c1:u.V=y.V∧x.Id < u.Height
  ·have ih:=zabl (c:=c) (S:=S) (k3:=k3) (k4:=k4) (w:=w) (M:=M) (p:=p) (x:=x) (y:=y) m (l:=l) (k:=k+1) (n:=n+u.Amount) e2 hlt hl (fun v hv=>ha v (List.mem_cons_of_mem _ hv)) (by omega) (by rw[hP];omega)
   rw[zbi] at ih ⊢
   rw[zbs (s':=(c,n+u.Amount,S,k3,k4,l,((l.length:Nat):Int),((k+1:Nat):Int),w,M,p,x,y))]
   ·rw[ih]
    simp only[zrm,if_pos c1]
    rw[show n+u.Amount+zrm y.V x.Id m=n+(u.Amount+zrm y.V x.Id m) by omega]
   ·show (zbx c n S k3 k4 l ((l.length:Nat):Int) (k:Int) w M p x y).run=_
    unfold zbx
    rw[yy4,e1,Tr.rt (by simpa using hlt),Tr.rg ⟨by omega,by rw[za8];omega⟩,Tr.rt (by simp[c1]),Tr.rl,zw (by omega),zl (by omega) (by omega)]
  ·have ih:=zabl (c:=c) (S:=S) (k3:=k3) (k4:=k4) (w:=w) (M:=M) (p:=p) (x:=x) (y:=y) m (l:=l) (k:=k+1) (n:=n) e2 hlt hl (fun v hv=>ha v (List.mem_cons_of_mem _ hv)) (by omega) (by rw[hP];omega)
   rw[zbi] at ih ⊢
   rw[zbs (s':=(c,n,S,k3,k4,l,((l.length:Nat):Int),((k+1:Nat):Int),w,M,p,x,y))]
   ·rw[ih]
    simp only[zrm,if_neg c1]
    rw[Int.zero_add]
   ·show (zbx c n S k3 k4 l ((l.length:Nat):Int) (k:Int) w M p x y).run=_
    unfold zbx
    rw[yy4,e1,Tr.rt (by simpa using hlt),Tr.rg ⟨by omega,by rw[za8];omega⟩,Tr.rf (by
     rw[Bool.and_eq_false_iff]
     by_cases z:u.V=y.V
     ·right;simp;exact Int.not_lt.1 (fun q=>c1 ⟨z,q⟩)
     ·left;simpa using z),Tr.rl,zw (by omega)]
theorem zai1 {w:Wld} (h:OkW w) {M:List (Int×A6 Int)} {x:zc} {c:Int} (hb:∀ v:Int,0≤v∧v < 6→0≤(zt7 M x.Id).get v∧(zt7 M x.Id).get v≤1125899906842624):∀ (m:List Power) {l:List Power} {k:Nat},l.drop k=m→k≤l.length→l.length≤1000 →
  (∀ y,y∈m→((0≤y.V∧y.V < 6)∧y.N*100≤behS w.p.Stake y.V x.Id - (zt7 M x.Id).get y.V)∧(0≤y.N∧y.N≤1125899906842624)) →
  zcj c l ((l.length:Nat):Int) (k:Int) w M w.p x=some (.inr (c,w,M,w.p))
 | [],l,k,e,hk,hl,hy=>by
  have:l.length≤k:=List.drop_eq_nil_iff.1 e
  rw[zcj]
  refine zda ?_
  simp only[zg5]
  rw[Tr.rf (by simp;omega),Tr.rl]
 | y::m,l,k,e,hk,hl,hy=>by
  have hlt:k < l.length:=by
   rcases Nat.lt_or_ge k l.length with h | h
   ·exact h
   ·rw[List.drop_eq_nil_iff.2 h] at e;cases e
  rw[zat hlt default] at e
  obtain ⟨e1,e2⟩:=List.cons.inj e
  obtain ⟨⟨hv,hn⟩,hN0,hN1⟩:=hy y (List.mem_cons_self ..)
  have gv:=(h.p.1.at hv).1
  have t0:=gv.1.1;have t1:=gv.1.2;have l0:=gv.2.2.1.1;have l1:=gv.2.2.1.2
  obtain ⟨b0,b1⟩:=hb y.V hv
  have hw60:=h.p.1.2.1.2.2
  have ih:=zai1 h (c:=c) hb m (l:=l) (k:=k+1) e2 hlt hl (fun z hz=>hy z (List.mem_cons_of_mem _ hz))
  have w1:IntKind.i64.wrap (w.p.Stake.Validators.Tokens.get y.V+w.p.Stake.Validators.Lost.get y.V)=w.p.Stake.Validators.Tokens.get y.V+w.p.Stake.Validators.Lost.get y.V:=zl (by omega) (by omega)
  have w2:IntKind.i64.wrap (w.p.Stake.Validators.Tokens.get y.V+w.p.Stake.Validators.Lost.get y.V - (zt7 M x.Id).get y.V)=w.p.Stake.Validators.Tokens.get y.V+w.p.Stake.Validators.Lost.get y.V - (zt7 M x.Id).get y.V:=zl (by omega) (by omega)
  have w3:IntKind.i64.wrap (y.N*100)=y.N*100:=zl (by omega) (by omega)
  have hlen:(w.p.Stake.Waits.length:Int)*1125899906842624≤67553994410557440:=by
   have:(w.p.Stake.Waits.length:Int)≤60:=by omega
   have:=Int.mul_le_mul_of_nonneg_right this (show (0:Int)≤1125899906842624 by omega)
   omega
  have k2:=zabl (c:=c) (S:=l) (k3:=((l.length:Nat):Int)) (k4:=(k:Int)) (w:=w) (M:=M) (p:=w.p) (x:=x) (y:=y) w.p.Stake.Waits (l:=w.p.Stake.Waits) (k:=0) (n:=w.p.Stake.Validators.Tokens.get y.V+w.p.Stake.Validators.Lost.get y.V - (zt7 M x.Id).get y.V) rfl (Nat.zero_le _) hw60 (zaiz h.p.1) (by omega) (by generalize (w.p.Stake.Waits.length:Int)*1125899906842624=Q at hlen;omega)
  have k2:zbi c (w.p.Stake.Validators.Tokens.get y.V+w.p.Stake.Validators.Lost.get y.V - (zt7 M x.Id).get y.V) l ((l.length:Nat):Int) (k:Int) w.p.Stake.Waits ((w.p.Stake.Waits.length:Nat):Int) 0 w M w.p x y=_:=k2
  have w2:IntKind.i64.wrap (w.p.Stake.Validators.Tokens.get y.V+w.p.Stake.Validators.Lost.get y.V - (z3s default M x.Id).get y.V)=w.p.Stake.Validators.Tokens.get y.V+w.p.Stake.Validators.Lost.get y.V - (zt7 M x.Id).get y.V:=w2
  rw[zcj] at ih ⊢
  rw[zbs (s':=(c,l,((l.length:Nat):Int),((k+1:Nat):Int),w,M,w.p,x))]
  ·exact ih
  ·simp only[zg5,yy4]
   rw[e1,Tr.rt (by simpa using hlt),Tr.rg ⟨by omega,by rw[za3];omega⟩,Tr.rg hv,Tr.rg hv,Tr.rg hv]
   simp only[w1,w2]
   rw[Tr.rb k2]
   simp only[w3]
   rw[Tr.rf (by
    unfold behS at hn
    rw[yy8]
    omega),Tr.rl,zw (by omega)]
theorem zaqg {w:Wld} (h:OkW w) {M:List (Int×A6 Int)} (hj:zafc w M):zdz 0 w M w.p=some (.inr (w,M)):=by
 have turn:∀ (i:Nat),i < 2→(zcw (i:Int) w M w.p).run=some (.inl (((i+1:Nat):Int),w,M,w.p)):=by
  intro i hi
  have hi':0≤(i:Int)∧(i:Int) < 2:=by omega
  simp only[zcw]
  rw[Tr.rt (by simp;omega),Tr.rb (zair h hi')]
  cases ho:(zb w.consumers (i:Int)).On with
  | false =>
   simp only[ho]
   rw[Tr.rt (by rfl),Tr.rl,zw (by omega)]
  | true =>
   obtain ⟨ms,h1,h2⟩:=hj.sets (i:Int) hi' ho
   obtain ⟨k1,k2⟩:=h2.head
   have hp:=(zbt (h.c (i:Int) hi').good).2.2.1
   have hl:=zik hp (by omega)
   have k3:=zai1 h (x:=zb w.consumers (i:Int)) (c:=(i:Int)) (hj.bnd _ k1) (zb w.consumers (i:Int)).Set (l:=(zb w.consumers (i:Int)).Set) (k:=0) rfl (Nat.zero_le _) (by omega) (fun y hy=>⟨k2 y hy,by
    have:=zj8 (by omega) hp (by omega) y hy
    omega⟩)
   have k3:zcj (i:Int) (zb w.consumers (i:Int)).Set (((zb w.consumers (i:Int)).Set.length:Nat):Int) 0 w M w.p (zb w.consumers (i:Int))=_:=k3
   simp only[ho]
   rw[Tr.rf (by rfl),Tr.rj k3,Tr.rl,zw (by omega)]
 rw[zdz,zbs (s':=(((1:Nat):Int),w,M,w.p)) (turn 0 (by omega)),zbs (s':=(((2:Nat):Int),w,M,w.p)) (turn 1 (by omega)),zda (r:=.inr (w,M)) (by
  show (zcw 2 w M w.p).run=_
  simp only[zcw]
  rw[Tr.rf (by simp),Tr.rl])]
theorem zai2 {w:Wld} (h:OkW w) (d:Deed) (r:Reply) {M:List (Int×A6 Int)} (hj:zafc w (zrn w M)):za7 d r w M=some (true,w,zrn w M):=by
 have e7:zk4=zdz:=rfl
 have h4:=zaqg h hj
 rw[za7,zj7,Tr.rb (zap7 h)]
 by_cases hm:zud M w.p.Height=true
 ·have en:zrn w M=M:=by unfold zrn;rw[if_pos hm]
  rw[en] at h4 ⊢
  rw[Tr.rf (by simp[hm]),e7,Tr.rj h4,Tr.rl]
 ·have en:zrn w M=z0n w.p.Height w.p.Stake.Validators.Lost M:=by unfold zrn;rw[if_neg hm]
  rw[en] at h4 ⊢
  have hm':zud M w.p.Height=false:=Bool.eq_false_iff.2 hm
  rw[Tr.rt (by simp[hm']),Tr.rb (v:=(w,M,w.p,w.p.Stake.Validators.Lost)) (by exact zaqf),Tr.rj (v:=(w,z0n w.p.Height w.p.Stake.Validators.Lost M)) (by exact h4),Tr.rl]
theorem z9f {l:List Deed} (hl:zaul l):zht l=some true:=by
 have loop:∃ t:List (Int×A6 Int)×Wld,zib l 0 [] newW=some (.inr t):=by
  rw[zib]
  have:=zais (F:=fun s:(List Deed)×Int×(List (Int×(A6 Int)))×Wld=>(zd0 s.1 s.2.1 s.2.2.1 s.2.2.2).run) (z6u l) (fun i (t:List (Int×A6 Int)×Wld)=>(l,(i:Int),t.1,t.2)) (fun i t=>OkW t.2∧t.2.deeds=i∧zafc t.2 t.1) (fun t=>.inr (t.1,t.2)) ?_ ?_ (t:=([],newW)) ⟨zaa8,rfl,zai0⟩
  ·obtain ⟨t,h1,_⟩:=this
   exact ⟨t,h1⟩
  ·rintro ⟨M,w⟩ ⟨h,_⟩
   simp only[zd0]
   rw[Tr.rf zait,Tr.rl]
  ·rintro i ⟨M,w⟩ hi ⟨h,hd,hm⟩
   have hlt:=zalp hi
   have hn:=hl.2 _ (zf0 (l:=l) (k:=i) hlt default)
   have ho:=z4k h (l.getD i default)
   have hd:w.deeds=i:=hd
   have h600:w.deeds < 600:=by unfold z6u at hi;omega
   have hj:=zalw h h600 hm (l.getD i default)
   have hk:=zai2 ho (l.getD i default) (doW w (l.getD i default)).2 hj
   refine ⟨(zrn (doW w (l.getD i default)).1 M,(doW w (l.getD i default)).1),?_,ho,by show (doW w (l.getD i default)).1.deeds=_;rw[zalq _ (by omega),hd];omega,hj⟩
   simp only[zd0]
   rw[yy4,Tr.rt (zaiu hi),Tr.rg ⟨by omega,by rw[zzc];omega⟩,Tr.rb (zain h hn),Tr.rg ⟨by omega,by rw[zzc];omega⟩,hk,Tr.rg (by rfl),Tr.rf (by rfl),Tr.rl,zw (by have:=hl.1;omega)]
   rfl
 obtain ⟨t,h1⟩:=loop
 rw[zht,znu,Tr.rb (v:=(true,t.1,t.2)) (by
  rw[zrv,znt,Tr.rb zalo,Tr.rf (by rfl),Tr.rb zaik,Tr.rj (v:=t) (by exact h1),Tr.rl]),Tr.rl]
