/-
  The plain lemmas.
-/
import Derived.Test.YtiacgjebngnddaaGreatXFTop
import Derived.Test.YtiacgjebngnddaaGreatXPlB
namespace Go.Proofs.YtiacgjebngnddaaGreat.Ab
open Go Go.RowKit
set_option linter.unusedVariables false
set_option linter.unusedSimpArgs false
def psiN (w:Wld):Int:=w.deeds+phiN w 0+phiN w 1
structure Fr (w w':Wld) (i:Int):Prop where
 clock:w'.clock=w.clock
 height:w'.p.Height=w.p.Height
 set:w'.p.Set=w.p.Set
 vals:w'.p.Stake.Validators=w.p.Stake.Validators
 met:w'.p.Meter=w.p.Meter
 other:∀ j:Int,0≤j∧j < 2→j≠i→zb w'.consumers j=zb w.consumers j∧ze w'.p.Links j=ze w.p.Links j
 waits:NearW w.p.Stake.Waits w'.p.Stake.Waits
theorem Fr.refl (w:Wld) (i:Int):Fr w w i:=⟨rfl,rfl,rfl,rfl,rfl,fun _ _ _=>⟨rfl,rfl⟩,.refl _⟩
theorem Fr.trans {a b c:Wld} {i:Int} (h:Fr a b i) (k:Fr b c i):Fr a c i :=
 ⟨k.clock.trans h.clock,k.height.trans h.height,k.set.trans h.set,k.vals.trans h.vals,k.met.trans h.met,fun j hj e=>⟨(k.other j hj e).1.trans (h.other j hj e).1,(k.other j hj e).2.trans (h.other j hj e).2⟩,h.waits.trans k.waits⟩
structure SameP (h h':zti):Prop where
 time:h'.PTime=h.PTime
 got:h'.PGot=h.PGot
 said:h'.PSaid=h.PSaid
theorem SameP.refl (h:zti):SameP h h:=⟨rfl,rfl,rfl⟩
theorem SameP.trans {a b c:zti} (h:SameP a b) (k:SameP b c):SameP a c:=⟨k.time.trans h.time,k.got.trans h.got,k.said.trans h.said⟩
def ripR (w:Wld) (i:Int):List Ripe:=(zb w.consumers i).Ripes++(zb w.consumers i).Pending.map (fun p=>(⟨p.Id,w.clock+15⟩:Ripe))
structure Done (w:Wld) (i:Int) (k:Nat):Prop where
 k0:k≤(ripR w i).length
 live:zayd (zq5 w i)
 psi:psiN (zq5 w i)≤psiN w+1
 on:(zb (zq5 w i).consumers i).On=true
 pend:(zb (zq5 w i).consumers i).Pending=[]
 ripes:(zb (zq5 w i).consumers i).Ripes=(ripR w i).drop k
 said:(zb (zq5 w i).consumers i).Out.Said=(zb w.consumers i).Out.Said++((ripR w i).take k).map matT
 got:(zb (zq5 w i).consumers i).Out.Got=(zb w.consumers i).Out.Got
 ok:∀ r,r∈ripR w i→zjd r=true
 all:(∀ r,r∈ripR w i→r.Due≤w.clock)→cntN w i < 400→(ripR w i).drop k=[]
 hp:SameP w.heads (zq5 w i).heads
 ctime:(zq5 w i).heads.CTime.get i=w.clock
 cgot:(zq5 w i).heads.CGot.get i=(ze w.p.Links i).Out.Got
 csaid:(zq5 w i).heads.CSaid.get i=(((zb (zq5 w i).consumers i).Out.Said.length:Nat):Int)
 cnt:cntN (zq5 w i) i≤cntN w i
def ChainP (H:Int→List Power→Prop):Int→List Power→List Packet→Prop
 | id,s,[]=>H id s
 | id,s,q::l=>H id s∧ChainP H q.Id (zn4 s q.Set) l
theorem ChainP.head {H:Int→List Power→Prop}:∀ {l:List Packet} {id:Int} {s:List Power},ChainP H id s l→H id s
 | [],_,_,h=>h
 | _::_,_,_,h=>h.1
theorem ChainP.mono {H K:Int→List Power→Prop} {m:Int} (hk:∀ n s,m≤n→H n s→K n s):∀ {l:List Packet} {id:Int} {s:List Power},m≤id→z2e id l→ChainP H id s l→ChainP K id s l
 | [],_,_,hm,_,h=>hk _ _ hm h
 | q::l,id,_,hm,hr,h=>⟨hk _ _ hm h.1,h.2.mono hk (by have:=hr.1;omega) hr.2⟩
theorem ChainP.tail {H:Int→List Power→Prop}:∀ {l m:List Packet} {id:Int} {s:List Power},ChainP H id s (l++m)→ChainP H (z77 id l) (z5s s l) m
 | [],_,_,_,h=>h
 | _::l,m,_,_,h=>ChainP.tail (l:=l) h.2
theorem ChainP.snoc {H:Int→List Power→Prop} {q:Packet}:∀ {l:List Packet} {id:Int} {s:List Power},ChainP H id s l→H q.Id (zn4 (z5s s l) q.Set)→ChainP H id s (l++[q])
 | [],_,_,h,k=>⟨h,k⟩
 | _::l,_,_,h,k=>⟨h.1,ChainP.snoc (l:=l) h.2 k⟩
def SetsI (H:Int→List Power→Prop) (w:Wld) (i:Int):Prop:=∃ ms,WayI w i ms∧ChainP H (zb w.consumers i).Id (zb w.consumers i).Set ((zb w.consumers i).Pending++ms)
def zaj9 (H:Int→List Power→Prop) (w:Wld):Prop:=∀ i:Int,0≤i∧i < 2→(zb w.consumers i).On=true→SetsI H w i
theorem SetsI.same {H K:Int→List Power→Prop} {w w':Wld} {i:Int} (hk:∀ n s,(zb w.consumers i).Id≤n→H n s→K n s) (h:SetsI H w i) (e1:(ze w'.p.Links i).Out.Said=(ze w.p.Links i).Out.Said) (e2:(ze w'.p.Links i).Out.Got=(ze w.p.Links i).Out.Got) (e3:(ze w'.p.Links i).Told=(ze w.p.Links i).Told)
  (e4:(zb w'.consumers i).Id=(zb w.consumers i).Id) (e5:(zb w'.consumers i).Pending=(zb w.consumers i).Pending) (e6:(zb w'.consumers i).Set=(zb w.consumers i).Set) (e7:w.p.Height≤w'.p.Height):SetsI K w' i:=by
 obtain ⟨ms,h1,h2⟩:=h
 exact ⟨ms,h1.same e1 e2 e3 e4 e5 e6 e7,by rw[e4,e5,e6];exact h2.mono hk (Int.le_refl _) h1.rise⟩
theorem SetsI.cons {H K:Int→List Power→Prop} {w w':Wld} {i j:Int} {c:zc} (hk:∀ n s,(zb w.consumers i).Id≤n→H n s→K n s) (hj:0≤j∧j < 2) (hi:0≤i∧i < 2) (h:SetsI H w i) (hl:(ze w'.p.Links i).Out.Said=(ze w.p.Links i).Out.Said∧(ze w'.p.Links i).Out.Got=(ze w.p.Links i).Out.Got∧(ze w'.p.Links i).Told=(ze w.p.Links i).Told)
  (hc:w'.consumers=zk0 w.consumers j c) (h1:c.Id=(zb w.consumers j).Id) (h2:c.Pending=(zb w.consumers j).Pending) (h3:c.Set=(zb w.consumers j).Set) (hH:w.p.Height≤w'.p.Height):SetsI K w' i:=by
 have e:=zj1 (C:=w.consumers) hj hi c
 refine h.same hk hl.1 hl.2.1 hl.2.2 ?_ ?_ ?_ hH
 all_goals
  rw[hc,e]
  split
  ·rename_i k;rw[k];assumption
  ·rfl
theorem zxw {w:Wld} {i j:Int} {c:zc} (hj:0≤j∧j < 2) (hi:0≤i∧i < 2) (hon:(zb w.consumers j).On=true) (ho:(zb (zk0 w.consumers j c) i).On=true):(zb w.consumers i).On=true:=by
 rw[zj1 hj hi c] at ho
 split at ho
 ·rename_i k;rw[k];exact hon
 ·exact ho
theorem zaoh {H K:Int→List Power→Prop} {w:Wld} (h:OkW w) (hd:w.deeds < 600) (ht:zaj9 H w) (d:Deed) (hkk:∀ i:Int,0≤i∧i < 2→(zb w.consumers i).On=true→∀ n s,(zb w.consumers i).Id≤n→H n s→K n s) (hK:K (doW w d).1.p.Height (doW w d).1.p.Set):zaj9 K (doW w d).1:=by
 intro i hi
 revert hK
 have hk:=hkk i hi
 refine z5q h hd d (P:=fun w' r=>K w'.p.Height w'.p.Set→(zb w'.consumers i).On=true→SetsI K w' i) ?_ ?_ ?_ ?_ ?_ ?_ ?_ ?_ ?_ ?_ ?_ ?_ ?_ ?_ ?_
 ·intro w' r a _ _ ho
  rw[a.c] at ho
  exact (ht i hi ho).same (hk ho) (by rw[a.p]) (by rw[a.p]) (by rw[a.p]) (by rw[a.c]) (by rw[a.c]) (by rw[a.c]) (by rw[a.p];exact Int.le_refl _)
 ·intro _ _ _ ho;exact (ht i hi ho).same (hk ho) rfl rfl rfl rfl rfl rfl (Int.le_refl _)
 ·intro _ _ _ ho;exact (ht i hi ho).same (hk ho) rfl rfl rfl rfl rfl rfl (Int.le_refl _)
 ·intro _ _ _ ho;exact (ht i hi ho).same (hk ho) rfl rfl rfl rfl rfl rfl (Int.le_refl _)
 ·intro _ _ _ _ _ ho;exact (ht i hi ho).same (hk ho) rfl rfl rfl rfl rfl rfl (Int.le_refl _)
 ·intro _ _ _ _ ho;exact (ht i hi ho).same (hk ho) rfl rfl rfl rfl rfl rfl (Int.le_refl _)
 ·intro _ hK ho
  obtain ⟨ms,hm,hc⟩:=ht i hi ho
  have hg:zal w.p=true∧w.p.Time≤w.clock∧w.clock≤1099511627776:=⟨h.pr,h.pt,by have:=h.t1;omega⟩
  obtain ⟨D',-,hD⟩:=zabw hg hi
  obtain ⟨r1,r2,r3,r4,-⟩:=z5l hg
  have hHt:(z75 w).p.Height=w.p.Height+1:=r1
  have hset:zep (fP (zif w.p w.clock).1.Set)=(zif w.p w.clock).1.Set:=by rw[r4];exact z7v _
  rcases hD with ⟨e1,e2,e3,e4,-⟩ | ⟨e1,e2,e3,e4,e5,e6,e7,e8,e9⟩
  ·have el:(ze (z75 w).p.Links i).Out=(ze w.p.Links i).Out:=e4
   exact SetsI.same (hk ho) ⟨ms,hm,hc⟩ (by rw[el]) (by rw[el]) e1 rfl rfl rfl (by omega)
  ·have el:(ze (z75 w).p.Links i).Out=_:=e9
   have gl:=(h.p.lk hi).line
   have hgot:(ze w.p.Links i).Out.Got.toNat≤(ze w.p.Links i).Out.Said.length:=by
    have a1:0≤(ze w.p.Links i).Out.Got:=gl.2.2.1
    have a2:(ze w.p.Links i).Out.Got≤(((ze w.p.Links i).Out.Said.length:Nat):Int):=gl.2.2.2.1
    omega
   obtain ⟨a1,a2,a3,a4,a5,a6⟩:=hm
   obtain ⟨k,hkk⟩:∃ k:Packet,k=⟨1,(zif w.p w.clock).1.Height,0,0,zn5 (fP (w.p.Links.Told.get i)) (fP (zif w.p w.clock).1.Set),D'⟩:=⟨_,rfl⟩
   rw[← hkk] at e8 el
   have kid:k.Id=w.p.Height+1:=by rw[hkk];exact r1
   have ap:zn4 (ze w.p.Links i).Told k.Set=(zif w.p w.clock).1.Set:=by rw[hkk];exact zajy hset
   refine ⟨ms++[k],⟨?_,?_,?_,?_,?_,?_⟩,?_⟩
   ·rw[el]
    show ((ze w.p.Links i).Out.Said++[txt (znm k)]).drop (ze w.p.Links i).Out.Got.toNat=_
    rw[zahg hgot,a1,List.map_append];rfl
   ·intro q hq
    rcases List.mem_append.1 hq with hq | hq
    ·exact a2 q hq
    ·rw[List.mem_singleton.1 hq];exact ⟨e8,by rw[hkk]⟩
   ·show z2e (zb w.consumers i).Id ((zb w.consumers i).Pending++(ms++[k]))
    rw[← List.append_assoc,rises_app]
    refine ⟨a3,?_,trivial⟩
    have:=z5t (n:=w.p.Height) a4 a5
    omega
   ·show (zb w.consumers i).Id≤(z75 w).p.Height;omega
   ·intro q hq
    have hq':q∈(zb w.consumers i).Pending++(ms++[k]):=hq
    rw[← List.append_assoc] at hq'
    rcases List.mem_append.1 hq' with hq' | hq'
    ·have:=a5 q hq';omega
    ·rw[List.mem_singleton.1 hq'];omega
   ·show z5s (zb w.consumers i).Set ((zb w.consumers i).Pending++(ms++[k]))=(ze (zif w.p w.clock).1.Links i).Told
    rw[← List.append_assoc,z76,a6]
    show zn4 (ze w.p.Links i).Told k.Set=(zif w.p w.clock).1.Links.Told.get i
    rw[e1,ap]
   ·show ChainP K (zb w.consumers i).Id (zb w.consumers i).Set ((zb w.consumers i).Pending++(ms++[k]))
    rw[← List.append_assoc]
    refine (hc.mono (hk ho) (Int.le_refl _) a3).snoc ?_
    rw[a6,ap]
    have hK:K (zif w.p w.clock).1.Height (zif w.p w.clock).1.Set:=hK
    rw[show k.Id=(zif w.p w.clock).1.Height by rw[hkk]]
    exact hK
 ·intro _ hj hg hno _ _ hK ho
  by_cases e:i=d.C
  ·rw[e]
   have hci:zb (zahb w d.C).consumers d.C=zn7 w.p.Set w.p.Height w.clock:=zd2 hj _
   have el:ze (zahb w d.C).p.Links d.C=_:=zkz (L:=w.p.Links) (H:=w.p.Height) (T:=w.p.Set) (f:=ztp w.p) hj hj
   rw[if_pos rfl] at el
   refine ⟨[],⟨by rw[el];rfl,by simp,by rw[hci];trivial,by rw[hci];exact Int.le_refl _,?_,by rw[hci,el];rfl⟩,by rw[hci];exact hK⟩
   rw[hci];intro q hq;cases hq
  ·have hci:zb (zahb w d.C).consumers i=zb w.consumers i:=zcw hj hi e _
   have el:ze (zahb w d.C).p.Links i=_:=zkz (L:=w.p.Links) (H:=w.p.Height) (T:=w.p.Set) (f:=ztp w.p) hj hi
   rw[if_neg e] at el
   rw[hci] at ho
   exact (ht i hi ho).same (hk ho) (by rw[el]) (by rw[el]) (by rw[el]) (by rw[hci]) (by rw[hci]) (by rw[hci]) (Int.le_refl _)
 ·intro _ hj hon _ ho
  have hw:=h.c d.C hj
  obtain ⟨e0,m,k,hm0,hpm,hl,hk',hf,f1,-⟩:=ztg (now:=w.clock) hw.good hon ⟨hw.time,by have:=h.t1;omega⟩ (by have:=hw.height;omega)
  by_cases e:i=d.C
  ·rw[e]
   obtain ⟨ms,⟨a1,a2,a3,a4,a5,a6⟩,hc⟩:=ht d.C hj hon
   have hci:zb (zq5 w d.C).consumers d.C=(z3a w.clock (zb w.consumers d.C)).1:=zd2 hj _
   obtain ⟨s1,s2⟩:=z1j (now:=w.clock) (zb w.consumers d.C).Pending { zb w.consumers d.C with Height:=(zb w.consumers d.C).Height+1,Time:=w.clock }
   rw[← hm0] at s1 s2
   have q1:(zb (zq5 w d.C).consumers d.C).Id=z77 (zb w.consumers d.C).Id (zb w.consumers d.C).Pending:=by rw[hci,hf];exact s2
   have q2:(zb (zq5 w d.C).consumers d.C).Set=z5s (zb w.consumers d.C).Set (zb w.consumers d.C).Pending:=by rw[hci,hf];exact s1
   have q3:(zb (zq5 w d.C).consumers d.C).Pending=[]:=by rw[hci,hf]
   refine ⟨ms,⟨a1,a2,?_,?_,?_,?_⟩,?_⟩
   ·rw[q1,q3];exact (rises_app.1 a3).2
   ·rw[q1];exact z5t a4 (fun q hq=>a5 q (List.mem_append_left _ hq))
   ·rw[q3];exact fun q hq=>a5 q (List.mem_append_right _ hq)
   ·rw[q2,q3,List.nil_append,← z76];exact a6
   ·rw[q1,q2,q3,List.nil_append];exact (hc.mono (hkk d.C hj hon) (Int.le_refl _) a3).tail
  ·have hci:zb (zq5 w d.C).consumers i=zb w.consumers i:=zcw hj hi e _
   rw[hci] at ho
   exact (ht i hi ho).same (hk ho) rfl rfl rfl (by rw[hci]) (by rw[hci]) (by rw[hci]) (Int.le_refl _)
 ·intro _ hj _ _ _ ho
  have el:ze (zasl w d.C).p.Links i=_:=z9y (L:=w.p.Links) hj hi (zan6 w.heads d.C)
  exact (ht i hi ho).same (hk ho) (by rw[el];split<;>rfl) (by rw[el];split<;>rfl) (by rw[el];split<;>rfl) rfl rfl rfl (Int.le_refl _)
 ·intro _ hj hon _ _ ho
  exact (ht i hi (zxw hj hi hon ho)).cons (hk (zxw hj hi hon ho)) hj hi ⟨rfl,rfl,rfl⟩ rfl rfl rfl rfl (Int.le_refl _)
 ·intro q _ hj hon _ _ _ _ ho
  exact (ht i hi (zxw hj hi hon ho)).cons (hk (zxw hj hi hon ho)) hj hi ⟨rfl,rfl,rfl⟩ rfl rfl rfl rfl (Int.le_refl _)
 ·intro q _ hj hon _ hcm hq1 _ ho
  have el:ze (gotF w d.C q).p.Links i=_:=zte (L:=w.p.Links) hj hi { (ze w.p.Links d.C).Out with Got:=(ze w.p.Links d.C).Out.Got+1 }
  by_cases e:i=d.C
  ·rw[e] at el ⊢
   rw[if_pos rfl] at el
   obtain ⟨ms,⟨a1,a2,a3,a4,a5,a6⟩,hc⟩:=ht d.C hj hon
   have hci:zb (gotF w d.C q).consumers d.C={ zb w.consumers d.C with Pending:=(zb w.consumers d.C).Pending++[q] }:=zd2 hj _
   have hgot:(ze w.p.Links d.C).Out.Got.toNat < (ze w.p.Links d.C).Out.Said.length:=hcm.got
   have hg0:0≤(ze w.p.Links d.C).Out.Got:=hcm.good.2.2.1
   have htx:(ze w.p.Links d.C).Out.Said.getD (ze w.p.Links d.C).Out.Got.toNat .empty=txt (znm q):=hcm.text
   rw[za2 hgot .empty,htx] at a1
   cases ms with
   | nil=>cases a1
   | cons m ms =>
    rw[List.map_cons] at a1
    obtain ⟨b1,b2⟩:=List.cons.inj a1
    have hm:m=q:=(zaof hcm.pk (a2 m (List.mem_cons_self ..)).1 b1).symm
    subst hm
    have hlist:(zb w.consumers d.C).Pending++m::ms=(zb w.consumers d.C).Pending++[m]++ms:=by simp
    rw[hlist] at a3 a5 a6 hc
    refine ⟨ms,⟨?_,fun r hr=>a2 r (List.mem_cons_of_mem _ hr),by rw[hci];exact a3,by rw[hci];exact a4,by rw[hci];exact a5,by rw[hci,el];exact a6⟩,by rw[hci];exact hc.mono (hkk d.C hj hon) (Int.le_refl _) a3⟩
    rw[el]
    show (ze w.p.Links d.C).Out.Said.drop ((ze w.p.Links d.C).Out.Got+1).toNat=_
    rw[show ((ze w.p.Links d.C).Out.Got+1).toNat=(ze w.p.Links d.C).Out.Got.toNat+1 by omega]
    exact b2
  ·rw[if_neg e] at el
   have hci:zb (gotF w d.C q).consumers i=zb w.consumers i:=zcw hj hi e _
   rw[hci] at ho
   exact (ht i hi ho).same (hk ho) (by rw[el]) (by rw[el]) (by rw[el]) (by rw[hci]) (by rw[hci]) (by rw[hci]) (Int.le_refl _)
 ·intro _ hj hon _ _ ho
  by_cases e:i=d.C
  ·have hci:zb (zaj5 w d.C).consumers d.C=_:=zd2 hj _
   rw[e,hci] at ho;cases ho
  ·have hci:zb (zaj5 w d.C).consumers i=zb w.consumers i:=zcw hj hi e _
   have el:ze (zaj5 w d.C).p.Links i=_:=zo6 (L:=w.p.Links) hj hi
   rw[if_neg e] at el
   rw[hci] at ho
   exact (ht i hi ho).same (hk ho) (by rw[el]) (by rw[el]) (by rw[el]) (by rw[hci]) (by rw[hci]) (by rw[hci]) (Int.le_refl _)
 ·intro q f _ hj hon _ _ _ _ _ ho
  exact (ht i hi (zxw hj hi hon ho)).cons (hk (zxw hj hi hon ho)) hj hi ⟨rfl,rfl,rfl⟩ rfl rfl rfl rfl (Int.le_refl _)
theorem zab1:∀ {l:List Packet} {id:Int},z2e id l→id≤z77 id l
 | [],_,_=>Int.le_refl _
 | q::l,id,h=>by
  have:=zab1 (l:=l) h.2
  show id≤z77 q.Id l
  have:=h.1
  omega
theorem zaye {w:Wld} (h:OkW w) (hd:w.deeds < 600) (ht:zaog w) (d:Deed) {i:Int} (hi:0≤i∧i < 2):(zb w.consumers i).Id≤(zb (doW w d).1.consumers i).Id:=by
 have up:∀ {j:Int} {c:zc} {C:zb7},0≤j∧j < 2→C=zk0 w.consumers j c→(zb w.consumers j).Id≤c.Id→(zb w.consumers i).Id≤(zb C i).Id:=by
  intro j c C hj hC hc
  rw[hC,zj1 hj hi c]
  split
  ·rename_i k;rw[k];exact hc
  ·exact Int.le_refl _
 refine z5q h hd d (P:=fun w' r=>(zb w.consumers i).Id≤(zb w'.consumers i).Id) ?_ ?_ ?_ ?_ ?_ ?_ ?_ ?_ ?_ ?_ ?_ ?_ ?_ ?_ ?_
 ·intro w' r a _;rw[a.c];exact Int.le_refl _
 ·intro _ _;exact Int.le_refl _
 ·intro _ _;exact Int.le_refl _
 ·intro _ _;exact Int.le_refl _
 ·intro _ _ _ _;exact Int.le_refl _
 ·intro _ _ _;exact Int.le_refl _
 ·intro _;exact Int.le_refl _
 ·intro _ hj hg hno _ _
  refine up hj rfl ?_
  obtain ⟨e,-⟩:=(h.c d.C hj).fresh hno hg
  rw[e]
  exact h.p.2.1.1
 ·intro _ hj hon
  refine up hj rfl ?_
  have hw:=h.c d.C hj
  obtain ⟨ms,⟨a1,a2,a3,a4,a5,a6⟩⟩:=ht d.C hj hon
  obtain ⟨e0,m,k,hm0,hpm,hl,hk',hf,f1,-⟩:=ztg (now:=w.clock) hw.good hon ⟨hw.time,by have:=h.t1;omega⟩ (by have:=hw.height;omega)
  obtain ⟨s1,s2⟩:=z1j (now:=w.clock) (zb w.consumers d.C).Pending { zb w.consumers d.C with Height:=(zb w.consumers d.C).Height+1,Time:=w.clock }
  rw[← hm0] at s2
  rw[hf]
  show (zb w.consumers d.C).Id≤m.Id
  rw[s2]
  exact zab1 (rises_app.1 a3).1
 ·intro _ _ _ _;exact Int.le_refl _
 ·intro _ hj _ _;exact up hj rfl (Int.le_refl _)
 ·intro q _ hj _ _ _ _;exact up hj rfl (Int.le_refl _)
 ·intro q _ hj _ _ _ _;exact up hj rfl (Int.le_refl _)
 ·intro _ hj _ _;exact up hj rfl (Int.le_refl _)
 ·intro q f _ hj _ _ _ _ _;exact up hj rfl (Int.le_refl _)
theorem zasp {w:Wld} (h:OkW w) (hd:w.deeds < 600) (d:Deed):(doW w d).1.p.Height=w.p.Height∧(doW w d).1.p.Set=w.p.Set∨(doW w d).1.p.Height=w.p.Height+1:=by
 refine z5q h hd d (P:=fun w' r=>w'.p.Height=w.p.Height∧w'.p.Set=w.p.Set∨w'.p.Height=w.p.Height+1) ?_ ?_ ?_ ?_ ?_ ?_ ?_ ?_ ?_ ?_ ?_ ?_ ?_ ?_ ?_
 ·intro w' r a _;rw[a.p];exact .inl ⟨rfl,rfl⟩
 ·intro _ _;exact .inl ⟨rfl,rfl⟩
 ·intro _ _;exact .inl ⟨rfl,rfl⟩
 ·intro _ _;exact .inl ⟨rfl,rfl⟩
 ·intro _ _ _ _;exact .inl ⟨rfl,rfl⟩
 ·intro _ _ _;exact .inl ⟨rfl,rfl⟩
 ·intro _;exact .inr (z5l ⟨h.pr,h.pt,by have:=h.t1;omega⟩).1
 ·intro _ _ _ _ _ _;exact .inl ⟨rfl,rfl⟩
 ·intro _ _ _;exact .inl ⟨rfl,rfl⟩
 ·intro _ _ _ _;exact .inl ⟨rfl,rfl⟩
 ·intro _ _ _ _;exact .inl ⟨rfl,rfl⟩
 ·intro q _ _ _ _ _ _;exact .inl ⟨rfl,rfl⟩
 ·intro q _ _ _ _ _ _;exact .inl ⟨rfl,rfl⟩
 ·intro _ _ _ _;exact .inl ⟨rfl,rfl⟩
 ·intro q f _ _ _ _ _ _ _;exact .inl ⟨rfl,rfl⟩
theorem zzf {α:Type} (n:Int) (x:α) (m:Int):∀ l:List (Int×α),z1k (z1l n x l) m=if m=n then true else z1k l m
 | []=>rfl
 | p::l=>by
  by_cases e:n=p.1
  ·simp only[z1l,if_pos e,z1k]
   by_cases k:m=n
   ·rw[if_pos k,if_pos k]
   ·rw[if_neg k,if_neg k,if_neg (by rw[← e];exact k)]
  ·simp only[z1l,if_neg e,z1k,zzf n x m l]
   by_cases k:m=n
   ·rw[if_pos k,if_pos k,if_neg (by rw[k];exact e)]
   ·rw[if_neg k,if_neg k]
theorem zzg {α:Type} (d:α) (n:Int) (x:α) (m:Int):∀ l:List (Int×α),z1v d (z1l n x l) m=if m=n then x else z1v d l m
 | []=>rfl
 | p::l=>by
  by_cases e:n=p.1
  ·simp only[z1l,if_pos e,z1v]
   by_cases k:m=n
   ·rw[if_pos k,if_pos k]
   ·rw[if_neg k,if_neg k,if_neg (by rw[← e];exact k)]
  ·simp only[z1l,if_neg e,z1v,zzg d n x m l]
   by_cases k:m=n
   ·rw[if_pos k,if_pos k,if_neg (by rw[k];exact e)]
   ·rw[if_neg k,if_neg k]
def HM (M:List (Int×List Power)) (n:Int) (s:List Power):Prop:=z1k M n=true∧z1v [] M n=s
structure zahi (w:Wld) (ids:A2 Int) (M:List (Int×List Power)):Prop where
 sets:zaj9 (HM M) w
 top:∀ n,z1k M n=true→n≤w.p.Height
 cur:z1k M w.p.Height=true→z1v [] M w.p.Height=w.p.Set
 ids:∀ i:Int,0≤i∧i < 2→ids.get i≤(zb w.consumers i).Id
def zo7 (w:Wld) (M:List (Int×List Power)):List (Int×List Power):=z1l w.p.Height w.p.Set M
theorem zaoi {H:Int→List Power→Prop} {w:Wld} (h:zaj9 H w):zaog w:=fun i hi ho=>by
 obtain ⟨ms,h1,-⟩:=h i hi ho
 exact ⟨ms,h1⟩
theorem zaka {w:Wld} (h:OkW w) (hd:w.deeds < 600) {ids:A2 Int} {M:List (Int×List Power)} (hj:zahi w ids M) (d:Deed):zahi (doW w d).1 ids (zo7 (doW w d).1 M):=by
 obtain ⟨j1,j2,j3,j4⟩:=hj
 have hs:=zasp h hd d
 have up:∀ n s,HM M n s→HM (zo7 (doW w d).1 M) n s:=by
  rintro n s ⟨k1,k2⟩
  unfold HM zo7
  rw[zzf,zzg]
  by_cases e:n=(doW w d).1.p.Height
  ·rw[if_pos e,if_pos e]
   refine ⟨rfl,?_⟩
   have:=j2 n k1
   rcases hs with ⟨z1,z2⟩ | z
   ·rw[z1] at e
    subst e
    rw[z2,← j3 k1];exact k2
   ·omega
  ·rw[if_neg e,if_neg e];exact ⟨k1,k2⟩
 refine ⟨zaoh h hd j1 d (fun _ _ _ n s _=>up n s) ?_,fun n hn=>?_,fun _=>?_,fun i hi=>?_⟩
 ·unfold HM zo7
  rw[zzf,zzg,if_pos rfl,if_pos rfl];exact ⟨rfl,rfl⟩
 ·unfold zo7 at hn
  rw[zzf] at hn
  split at hn
  ·rename_i e;rw[e];exact Int.le_refl _
  ·have:=j2 n hn
   rcases hs with ⟨z1,-⟩ | z<;>omega
 ·unfold zo7
  rw[zzg,if_pos rfl]
 ·have:=j4 i hi
  have:=zaye h hd (zaoi j1) d hi
  omega
def idN (w:Wld) (ids:A2 Int) (i:Int):A2 Int:=if (zb w.consumers i).On=true then ids.set i (zb w.consumers i).Id else ids
theorem z97 {w:Wld} {ids:A2 Int} {i j:Int} (hi:0≤i∧i < 2) (hj:0≤j∧j < 2) (h:ids.get j≤(zb w.consumers j).Id):(idN w ids i).get j≤(zb w.consumers j).Id:=by
 unfold idN
 split
 ·rw[zaj _ _ hi hj]
  split
  ·rename_i e;rw[e];exact Int.le_refl _
  ·exact h
 ·exact h
theorem zahj {w:Wld} (h:OkW w) (d:Deed) (r:Reply) {ids:A2 Int} {M:List (Int×List Power)} (hj:zahi w ids (zo7 w M)) :
  zay d r w ids M=some (true,w,idN w (idN w ids 0) 1,zo7 w M):=by
 obtain ⟨j1,j2,j3,j4⟩:=hj
 have turn:∀ (i:Nat) (ids:A2 Int),i < 2→ids.get (i:Int)≤(zb w.consumers (i:Int)).Id→(za5 (i:Int) w ids (zo7 w M) w.p).run=some (.inl (((i+1:Nat):Int),w,idN w ids (i:Int),zo7 w M,w.p)):=by
  intro i ids hi hid
  have hi':0≤(i:Int)∧(i:Int) < 2:=by omega
  simp only[za5]
  rw[Tr.rt (by simp;omega),Tr.rb (zahc h hi')]
  unfold idN
  cases ho:(zb w.consumers (i:Int)).On with
  | false =>
   simp only[ho]
   rw[Tr.rt (by rfl),Tr.rl,zx (by omega),if_neg (by simp)]
  | true =>
   obtain ⟨ms,h1,h2⟩:=j1 (i:Int) hi' ho
   obtain ⟨k1,k2⟩:=h2.head
   have k3:=h1.id
   have hl:(zb w.consumers (i:Int)).Set.length≤9223372036854775807:=by have:=zic (zb5 (h.c (i:Int) hi').good).2.2.1 (by omega);omega
   have hs:=zadw hl
   simp only[ho,k1,k2,hs]
   rw[Tr.rf (by rfl),Tr.rg (fun _=>⟨rfl,trivial⟩),Tr.rg (fun _=>⟨hi',trivial⟩),Tr.rf (by simp;omega),Tr.rg hi',Tr.rl,zx (by omega),if_pos trivial]
 have b0:=j4 0 (by omega)
 have b1:=z97 (w:=w) (i:=0) (j:=1) (by omega) (by omega) (j4 1 (by omega))
 have t0:(za5 0 w ids (zo7 w M) w.p).run=some (.inl (1,w,idN w ids 0,zo7 w M,w.p)):=turn 0 ids (by omega) b0
 have t1:(za5 1 w (idN w ids 0) (zo7 w M) w.p).run=some (.inl (2,w,idN w (idN w ids 0) 1,zo7 w M,w.p)):=turn 1 (idN w ids 0) (by omega) b1
 have loop:ze4 0 w ids (zo7 w M) w.p=some (.inr (w,idN w (idN w ids 0) 1,zo7 w M)):=by
  rw[ze4,zc5 (s':=(1,w,idN w ids 0,zo7 w M,w.p)) t0,zc5 (s':=(2,w,idN w (idN w ids 0) 1,zo7 w M,w.p)) t1]
  refine zff ?_
  show (za5 2 w (idN w (idN w ids 0) 1) (zo7 w M) w.p).run=_
  simp only[za5]
  rw[Tr.rf (by simp),Tr.rl]
 have loop:ze4 0 w ids (z1l w.p.Height w.p.Set M) w.p=some (.inr (w,idN w (idN w ids 0) 1,zo7 w M)):=loop
 rw[zay,znd,Tr.rb (zaoe h),Tr.rj loop,Tr.rl]
theorem zahk:zahi newW ⟨0,0⟩ []:=by
 refine ⟨fun i hi ho=>?_,fun n hn=>(by cases hn),fun hn=>(by cases hn),fun i hi=>?_⟩
 ·rcases (show i=0∨i=1 by omega) with rfl | rfl<;>cases ho
 ·rcases (show i=0∨i=1 by omega) with rfl | rfl<;>exact Int.le_refl 0
theorem zady {l:List Deed} (hl:zasm l):zkc l=some true:=by
 have loop:∃ t:A2 Int×List (Int×List Power)×Wld,zhy l 0 ⟨0,0⟩ [] newW=some (.inr t):=by
  rw[zhy]
  have:=zahd (F:=fun s:(List Deed)×Int×(A2 Int)×(List (Int×(List Power)))×Wld=>(zdr s.1 s.2.1 s.2.2.1 s.2.2.2.1 s.2.2.2.2).run) (z5r l) (fun i (t:A2 Int×List (Int×List Power)×Wld)=>(l,(i:Int),t.1,t.2.1,t.2.2)) (fun i t=>OkW t.2.2∧t.2.2.deeds=i∧zahi t.2.2 t.1 t.2.1) (fun t=>.inr (t.1,t.2.1,t.2.2)) ?_ ?_ (t:=(⟨0,0⟩,[],newW)) ⟨z9z,rfl,zahk⟩
  ·obtain ⟨t,h1,_⟩:=this
   exact ⟨t,h1⟩
  ·rintro ⟨ids,M,w⟩ ⟨h,_⟩
   simp only[zdr]
   rw[Tr.rf zahe,Tr.rl]
  ·rintro i ⟨ids,M,w⟩ hi ⟨h,hd,hm⟩
   have hlt:=zaj7 hi
   have hn:=hl.2 _ (zgj (l:=l) (k:=i) hlt default)
   have ho:=z70 h (l.getD i default)
   have hd:w.deeds=i:=hd
   have h600:w.deeds < 600:=by unfold z5r at hi;omega
   have hj:=zaka h h600 hm (l.getD i default)
   have hk:=zahj ho (l.getD i default) (doW w (l.getD i default)).2 hj
   refine ⟨(idN (doW w (l.getD i default)).1 (idN (doW w (l.getD i default)).1 ids 0) 1,zo7 (doW w (l.getD i default)).1 M,(doW w (l.getD i default)).1),?_,ho,by show (doW w (l.getD i default)).1.deeds=_;rw[zaj8 _ (by omega),hd];omega,⟨hj.sets,hj.top,hj.cur,fun j hj'=>?_⟩⟩
   ·simp only[zdr]
    rw[yy4,Tr.rt (zahf hi),Tr.rg ⟨by omega,by rw[zyj];omega⟩,Tr.rb (zag7 h hn),Tr.rg ⟨by omega,by rw[zyj];omega⟩,hk,Tr.rg (by rfl),Tr.rf (by rfl),Tr.rl,zx (by have:=hl.1;omega)]
    rfl
   ·exact z97 (by omega) hj' (z97 (by omega) hj' (hj.ids j hj'))
 obtain ⟨t,h1⟩:=loop
 rw[zkc,zqt,Tr.rb (v:=(true,t.1,t.2.1,t.2.2)) (by
  rw[zre,zne,Tr.rb zaj6,Tr.rf (by rfl),Tr.rb zag4,Tr.rj (v:=t) (by exact h1),Tr.rl]),Tr.rl]
def behW (v g:Int):List Wait→Int
 | []=>0
 | w::l=>(if w.V=v∧g < w.Height then w.Amount else 0)+behW v g l
def behS (s:Stake) (v g:Int):Int:=s.Validators.Tokens.get v+s.Validators.Lost.get v+behW v g s.Waits
def MoreB (s t:Stake) (g:Int):Prop:=∀ v:Int,0≤v∧v < 6→behS s v g≤behS t v g
theorem MoreB.refl (s:Stake) (g:Int):MoreB s s g:=fun _ _=>Int.le_refl _
theorem MoreB.trans {a b c:Stake} {g:Int} (h:MoreB a b g) (k:MoreB b c g):MoreB a c g:=fun v hv=>Int.le_trans (h v hv) (k v hv)
theorem MoreB.of {s t:Stake} {g:Int} (h1:t.Validators.Tokens=s.Validators.Tokens) (h2:t.Validators.Lost=s.Validators.Lost) (h3:∀ v,behW v g t.Waits=behW v g s.Waits):MoreB s t g:=fun v _=>by
 unfold behS;rw[h1,h2,h3];exact Int.le_refl _
def KeepK (i m:Int) (W W':List Wait):Prop:=∀ x,x∈W'→∃ y,y∈W∧x.Height=y.Height∧(m < hN y i→hN x i=hN y i)
theorem KeepK.refl (i m:Int) (W:List Wait):KeepK i m W W:=fun x hx=>⟨x,hx,rfl,fun _=>rfl⟩
theorem KeepK.trans {i m:Int} {A B C:List Wait} (h:KeepK i m A B) (k:KeepK i m B C):KeepK i m A C:=fun x hx=>by
 obtain ⟨y,hy,e1,e2⟩:=k x hx
 obtain ⟨z,hz,e3,e4⟩:=h y hy
 exact ⟨z,hz,e1.trans e3,fun hm=>by have:=e4 hm;rw[e2 (by omega),this]⟩
theorem KeepK.map {i m:Int} {W:List Wait} {f:Wait→Wait} (hf:∀ x,(f x).Height=x.Height∧(m < hN x i→hN (f x) i=hN x i)):KeepK i m W (W.map f):=fun x hx=>by
 obtain ⟨y,hy,rfl⟩:=List.mem_map.1 hx
 exact ⟨y,hy,(hf y).1,(hf y).2⟩
structure BackI (w:Wld) (i:Int):Prop where
 held:∀ x,x∈w.p.Stake.Waits→(zb w.consumers i).Id < x.Height→hN x i=x.Height
 queue:∀ a,a∈w.p.Queue→a.C=i→a.P.Kind=2→a.P.Id≤(zb w.consumers i).Id
 said:∀ q,zct q=0→q.Kind=2→pkT q∈(zb w.consumers i).Out.Said→q.Id≤(zb w.consumers i).Id
 ripes:∀ r,r∈(zb w.consumers i).Ripes→r.Id≤(zb w.consumers i).Id
theorem BackI.mono {w w':Wld} {i:Int} (h:BackI w i) (hI:(zb w.consumers i).Id≤(zb w'.consumers i).Id) (hW:∀ x,x∈w'.p.Stake.Waits→(∃ y,y∈w.p.Stake.Waits∧x.Height=y.Height∧((zb w.consumers i).Id < hN y i→hN x i=hN y i))∨hN x i=x.Height)
  (hQ:∀ a,a∈w'.p.Queue→a.C=i→a.P.Kind=2→a∈w.p.Queue∨a.P.Id≤(zb w'.consumers i).Id)
  (hS:∀ q,zct q=0→q.Kind=2→pkT q∈(zb w'.consumers i).Out.Said→pkT q∈(zb w.consumers i).Out.Said∨q.Id≤(zb w'.consumers i).Id)
  (hR:∀ r,r∈(zb w'.consumers i).Ripes→r∈(zb w.consumers i).Ripes∨r.Id≤(zb w'.consumers i).Id):BackI w' i:=by
 obtain ⟨a1,a2,a3,a4⟩:=h
 refine ⟨fun x hx hlt=>?_,fun a ha hc hk=>?_,fun q hg hk hq=>?_,fun r hr=>?_⟩
 ·rcases hW x hx with ⟨y,hy,e1,e2⟩ | e
  ·have e3:=a1 y hy (by omega)
   rw[e2 (by omega),e3,e1]
  ·exact e
 ·rcases hQ a ha hc hk with z | z
  ·have:=a2 a z hc hk;omega
  ·exact z
 ·rcases hS q hg hk hq with z | z
  ·have:=a3 q hg hk z;omega
  ·exact z
 ·rcases hR r hr with z | z
  ·have:=a4 r z;omega
  ·exact z
