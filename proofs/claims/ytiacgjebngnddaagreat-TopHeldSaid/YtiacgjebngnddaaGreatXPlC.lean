/-
  The plain lemmas.
-/
import Derived.Test.YtiacgjebngnddaaGreatXFCodec
import Derived.Test.YtiacgjebngnddaaGreatXFTop
import Derived.Test.YtiacgjebngnddaaGreatXPlB
namespace Go.Proofs.YtiacgjebngnddaaGreat.Ab
open Go Go.RowKit
set_option linter.unusedVariables false
set_option linter.unusedSimpArgs false
theorem zty {C:zcy} {i j:Int} (hj:0≤j∧j < 2) (hi:0≤i∧i < 2) (c:Consumer):(i=j∧zb (zkf C j c) i=c)∨(i≠j∧zb (zkf C j c) i=zb C i):=by
 by_cases e:i=j
 ·exact .inl ⟨e,by rw[e];exact zcx hj c⟩
 ·exact .inr ⟨e,zby hj hi e c⟩
theorem z2d {now:Int}:∀ (l:List Packet) (c:Consumer),(l.foldl (zmp now) c).Ripes=c.Ripes++l.map (fun p=>(⟨p.Id,IntKind.i64.wrap (now+15)⟩:Ripe))
 | [],c=>by simp
 | p::l,c=>by
  rw[List.foldl_cons,z2d l,zrn]
  show (c.Ripes++[(⟨p.Id,IntKind.i64.wrap (now+15)⟩:Ripe)])++_=_
  rw[List.append_assoc,List.map_cons];rfl
theorem z4j {w:Wld} (h:OkW w) (hd:w.deeds < 600) {i:Int} (hi:0≤i∧i < 2) (ho:(zb w.consumers i).On=true) :
  ∃ (k:Nat) (R:List Ripe),R=(zb w.consumers i).Ripes++(zb w.consumers i).Pending.map (fun p=>(⟨p.Id,w.clock+15⟩:Ripe))∧k≤R.length ∧
   (zxs w.clock (zb w.consumers i)).1.Pending=[]∧(zxs w.clock (zb w.consumers i)).1.Ripes=R.drop k ∧
   (zxs w.clock (zb w.consumers i)).1.Out={ (zb w.consumers i).Out with Said:=(zb w.consumers i).Out.Said++(R.take k).map matT,Due:=(zb w.consumers i).Out.Due++List.replicate k (w.clock+40) } ∧
   (zxs w.clock (zb w.consumers i)).1.On=true∧(zxs w.clock (zb w.consumers i)).1.Time=w.clock∧(∀ r,r∈R→zji r=true) ∧
   (zxs w.clock (zb w.consumers i)).1.Set=zalf (zb w.consumers i).Set (zb w.consumers i).Pending∧(zxs w.clock (zb w.consumers i)).1.Id=zapy (zb w.consumers i).Id (zb w.consumers i).Pending ∧
   (∀ r,r∈R.take k→r.Due≤w.clock)∧(k=R.length∨(∃ r,R[k]?=some r∧w.clock < r.Due)∨(zb w.consumers i).Out.Closed=true∨400≤(zb w.consumers i).Out.Said.length+k):=by
 have hw:=h.c i hi
 have h0:=h.t0;have h1:=h.t1;have hh:=hw.height
 obtain ⟨e0,m,k,hm,hpm,hl,hk,hf,f1,f2,f3,f4,f5,f6,f7,f8,hg⟩:=zyi hw.good ho ⟨hw.time,by omega⟩ (by omega)
 have hr:m.Ripes=(zb w.consumers i).Ripes++(zb w.consumers i).Pending.map (fun p=>(⟨p.Id,w.clock+15⟩:Ripe)):=by
  rw[hm,z2d]
  show (zb w.consumers i).Ripes++(zb w.consumers i).Pending.map (fun p=>(⟨p.Id,IntKind.i64.wrap (w.clock+15)⟩:Ripe))=_
  rw[zj (by omega) (by omega)]
 obtain ⟨s1,s2⟩:=z84 (now:=w.clock) (zb w.consumers i).Pending { zb w.consumers i with Height:=(zb w.consumers i).Height+1,Time:=w.clock }
 rw[← hm] at s1 s2
 refine ⟨k,m.Ripes,hr,hk,by rw[hf],by rw[hf],by rw[hf],by rw[hf];exact f1.trans ho,by rw[hf];exact f4,fun r hr'=>List.all_eq_true.1 hpm.ripes r hr',by rw[hf];exact s1,by rw[hf];exact s2,f6,f7⟩
structure OneI (w:Wld) (i:Int):Prop where
 o1:(zc w.p.Links i).Out.Closed=false
 o2:(zb w.consumers i).Out.Closed=false
 n1:(((zc w.p.Links i).Out.Said.length:Nat):Int)≤w.p.Height
 rip:∀ r,r∈(zb w.consumers i).Ripes→r.Due≤w.clock+15
theorem OneI.same {w w':Wld} {i:Int} (h:OneI w i) (e1:(zc w'.p.Links i).Out.Closed=(zc w.p.Links i).Out.Closed) (e2:(zc w'.p.Links i).Out.Said=(zc w.p.Links i).Out.Said) (e3:(zb w'.consumers i).Out.Closed=(zb w.consumers i).Out.Closed)
  (e4:(zb w'.consumers i).Ripes=(zb w.consumers i).Ripes) (e5:w.p.Height≤w'.p.Height) (e6:w.clock≤w'.clock):OneI w' i:=by
 obtain ⟨a1,a2,a3,a4⟩:=h
 exact ⟨by rw[e1];exact a1,by rw[e3];exact a2,by rw[e2];omega,fun r hr=>by rw[e4] at hr;have:=a4 r hr;omega⟩
structure OneW (w:Wld):Prop where
 one:∀ i:Int,0≤i∧i < 2→(zb w.consumers i).On=true→OneI w i
 met:w.p.Meter.Next≤w.clock+10
theorem OneW.cons {w w':Wld} (h:OneW w) {j:Int} (hj:0≤j∧j < 2) {c:Consumer} (hc:w'.consumers=zkf w.consumers j c) (hon:(zb w.consumers j).On=true)
  (hl:∀ i:Int,0≤i∧i < 2→(zc w'.p.Links i).Out.Closed=(zc w.p.Links i).Out.Closed∧(zc w'.p.Links i).Out.Said=(zc w.p.Links i).Out.Said)
  (h1:c.Out.Closed=(zb w.consumers j).Out.Closed) (h2:∀ r,r∈c.Ripes→r.Due≤w.clock+15) (hH:w'.p.Height=w.p.Height) (hM:w'.p.Meter=w.p.Meter) (ht:w'.clock=w.clock):OneW w':=by
 refine ⟨fun i hi ho=>?_,by rw[hM,ht];exact h.met⟩
 rw[hc] at ho
 obtain ⟨l1,l2⟩:=hl i hi
 rcases zty (C:=w.consumers) hj hi c with ⟨e,ec⟩ | ⟨e,ec⟩
 ·subst e
  obtain ⟨a1,a2,a3,a4⟩:=h.one i hi hon
  exact ⟨by rw[l1];exact a1,by rw[hc,ec,h1];exact a2,by rw[l2,hH];exact a3,fun r hr=>by rw[hc,ec] at hr;rw[ht];exact h2 r hr⟩
 ·rw[ec] at ho
  exact (h.one i hi ho).same l1 l2 (by rw[hc,ec]) (by rw[hc,ec]) (by rw[hH];exact Int.le_refl _) (by rw[ht];exact Int.le_refl _)
theorem z87:∀ (l:List Asked) (t:za×A2 Bool×List Asked),(l.foldl zgu t).1.Meter.Next=t.1.Meter.Next
 | [],_=>rfl
 | a::l,t=>by
  rw[List.foldl_cons,z87 l]
  have hd:(ztg t.1 a).1.Meter.Next=t.1.Meter.Next:=by
   unfold ztg
   repeat' split
   ·rfl
   ·rfl
   ·rfl
   ·rfl
   ·show (z6f t.1.Meter (zvz t.1 a.P.V)).1.Next=_
    unfold z6f;split<;>rfl
   ·rfl
  unfold zgu
  repeat' split
  ·rfl
  ·exact hd
  ·exact hd
theorem zalh {w:Wld} (h:OkW w) (hm:w.p.Meter.Next≤w.clock+10):(zlh w).p.Meter.Next≤w.clock+10:=by
 have hg:zag w.p=true∧w.p.Time≤w.clock∧w.clock≤1099511627776:=⟨h.pr,h.pt,by have:=h.t1;omega⟩
 have e:(zjj w.p w.clock).1.Meter=(zc0 w.p w.clock).1.Meter:=by
  unfold zjj
  rw[if_pos hg]
  show (zdh (zdh (zlw w.p w.clock) 0 w.clock) 1 w.clock).Meter=_
  rw[(zqd _ 1 w.clock).2.2.2.2.1,(zqd _ 0 w.clock).2.2.2.2.1]
  rfl
 show (zjj w.p w.clock).1.Meter.Next≤_
 rw[e]
 show (w.p.Queue.foldl zgu (zor w.p w.clock,⟨false,false⟩,[])).1.Meter.Next≤_
 rw[z87]
 show (z8k w.p.Meter (allP w.p.Set) w.clock).Next≤_
 have:=h.t0;have:=h.t1
 unfold z8k newM
 split
 ·show IntKind.i64.wrap (w.clock+10)≤_
  rw[zj (by omega) (by omega)];exact Int.le_refl _
 ·exact hm
theorem zap1:OneW newW:=by
 refine ⟨fun i hi ho=>?_,by decide⟩
 rcases (show i=0∨i=1 by omega) with rfl | rfl<;>cases ho
theorem zaup {w:Wld} (h:OkW w) (hd:w.deeds < 600) (ht:OneW w) (d:Deed):OneW (doW w d).1:=by
 have st:∀ s:Stake,OneW (z83 w s):=fun s=>⟨fun i hi ho=>(ht.one i hi ho).same rfl rfl rfl rfl (Int.le_refl _) (Int.le_refl _),ht.met⟩
 refine z6n h hd d (P:=fun w' r=>OneW w') ?_ ?_ ?_ ?_ ?_ ?_ ?_ ?_ ?_ ?_ ?_ ?_ ?_ ?_ ?_
 ·intro w' r a _
  refine ⟨fun i hi ho=>?_,by rw[a.p,a.t];exact ht.met⟩
  rw[a.c] at ho
  exact (ht.one i hi ho).same (by rw[a.p]) (by rw[a.p]) (by rw[a.c]) (by rw[a.c]) (by rw[a.p];exact Int.le_refl _) (by rw[a.t];exact Int.le_refl _)
 ·intro _ _;exact st _
 ·intro _ _;exact ⟨fun i hi ho=>(ht.one i hi ho).same rfl rfl rfl rfl (Int.le_refl _) (Int.le_refl _),ht.met⟩
 ·intro _ _;exact st _
 ·intro _ _ _ _;exact st _
 ·intro _ h1 _
  refine ⟨fun i hi ho=>(ht.one i hi ho).same rfl rfl rfl rfl (Int.le_refl _) (by show w.clock≤w.clock+d.N;omega),?_⟩
  have:=ht.met
  show w.p.Meter.Next≤w.clock+d.N+10;omega
 ·intro _
  refine ⟨fun i hi ho=>?_,zalh h ht.met⟩
  have hg:zag w.p=true∧w.p.Time≤w.clock∧w.clock≤1099511627776:=⟨h.pr,h.pt,by have:=h.t1;omega⟩
  obtain ⟨D',-,hD⟩:=z6i hg hi
  obtain ⟨r1,-⟩:=zxo hg
  obtain ⟨a1,a2,a3,a4⟩:=ht.one i hi ho
  have ef:zfn (zjj w.p w.clock).1.Links i=(zc (zlh w).p.Links i).Out:=rfl
  have eg:zfn w.p.Links i=(zc w.p.Links i).Out:=rfl
  have eH:(zlh w).p.Height=w.p.Height+1:=r1
  rcases hD with ⟨-,-,-,e4,-⟩ | ⟨-,-,-,-,e5,e6,-,-,e9⟩
  ·rw[ef,eg] at e4
   exact ⟨by rw[e4];exact a1,a2,by rw[e4,eH];omega,a4⟩
  ·rw[ef,eg] at e9
   refine ⟨by rw[e9];exact a1,a2,?_,a4⟩
   rw[e9,eH]
   simp only[yy6,yy5]
   omega
 ·intro _ hj _ _ h1 _
  refine ⟨fun i hi ho=>?_,ht.met⟩
  have el:zc (zabe w d.C).p.Links i=_:=zlg (L:=w.p.Links) (H:=w.p.Height) (T:=w.p.Set) (f:=ztj w.p) hj hi
  have ec:=zty (C:=w.consumers) hj hi (zlf w.p.Set w.p.Height w.clock)
  rcases ec with ⟨e,ec⟩ | ⟨e,ec⟩
  ·rw[if_pos e] at el
   have ec:zb (zabe w d.C).consumers i=zlf w.p.Set w.p.Height w.clock:=ec
   refine ⟨by rw[el],by rw[ec];rfl,?_,fun r hr=>?_⟩
   ·rw[el]
    show ((0:Nat):Int)≤w.p.Height;omega
   ·rw[ec] at hr;cases hr
  ·rw[if_neg e] at el
   have ec:zb (zabe w d.C).consumers i=zb w.consumers i:=ec
   rw[ec] at ho
   exact (ht.one i hi ho).same (by rw[el]) (by rw[el]) (by rw[ec]) (by rw[ec]) (Int.le_refl _) (Int.le_refl _)
 ·intro _ hj ho
  obtain ⟨k,R,eR,hk,f1,f2,f3,f4,-⟩:=z4j h hd hj ho
  refine ht.cons hj (c:=(zxs w.clock (zb w.consumers d.C)).1) rfl ho (fun _ _=>⟨rfl,rfl⟩) (by rw[f3]) (fun r hr=>?_) rfl rfl rfl
  rw[f2,eR] at hr
  rcases List.mem_append.1 (List.mem_of_mem_drop hr) with hr | hr
  ·exact (ht.one d.C hj ho).rip r hr
  ·obtain ⟨p,_,rfl⟩:=List.mem_map.1 hr
   exact Int.le_refl _
 ·intro _ hj ho _
  have el:∀ i:Int,0≤i∧i < 2→(zc (zae4 w d.C).p.Links i).Out=(zc w.p.Links i).Out:=by
   intro i hi
   have:zc (zae4 w d.C).p.Links i=_:=z15 (L:=w.p.Links) hj hi (zak6 w.heads d.C)
   rw[this];split<;>rfl
  exact ⟨fun i hi ho=>(ht.one i hi ho).same (by rw[el i hi]) (by rw[el i hi]) rfl rfl (Int.le_refl _) (Int.le_refl _),ht.met⟩
 ·intro _ hj ho _
  exact ht.cons hj rfl ho (fun _ _=>⟨rfl,rfl⟩) rfl (fun r hr=>(ht.one d.C hj ho).rip r hr) rfl rfl rfl
 ·intro q _ hj ho _ _ _
  exact ht.cons hj rfl ho (fun _ _=>⟨rfl,rfl⟩) rfl (fun r hr=>(ht.one d.C hj ho).rip r hr) rfl rfl rfl
 ·intro q _ hj ho _ _ _
  refine ht.cons hj rfl ho (fun i hi=>?_) rfl (fun r hr=>(ht.one d.C hj ho).rip r hr) rfl rfl rfl
  have el:zc (gotF w d.C q).p.Links i=_:=zqf (L:=w.p.Links) hj hi { (zc w.p.Links d.C).Out with Got:=(zc w.p.Links d.C).Out.Got+1 }
  rw[el]
  split
  ·rename_i e;rw[e];exact ⟨rfl,rfl⟩
  ·exact ⟨rfl,rfl⟩
 ·intro _ hj ho _
  refine ⟨fun i hi hoi=>?_,ht.met⟩
  rcases zty (C:=w.consumers) hj hi { zb w.consumers d.C with On:=false,Gone:=true,Out:={ (zb w.consumers d.C).Out with Closed:=true } } with ⟨e,ec⟩ | ⟨e,ec⟩
  ·have ec:zb (zae5 w d.C).consumers i=_:=ec
   rw[ec] at hoi;cases hoi
  ·have ec:zb (zae5 w d.C).consumers i=_:=ec
   have el:zc (zae5 w d.C).p.Links i=_:=zku (L:=w.p.Links) hj hi
   rw[if_neg e] at el
   rw[ec] at hoi
   exact (ht.one i hi hoi).same (by rw[el]) (by rw[el]) (by rw[ec]) (by rw[ec]) (Int.le_refl _) (Int.le_refl _)
 ·intro q f _ hj ho _ _ _ _
  exact ht.cons hj rfl ho (fun _ _=>⟨rfl,rfl⟩) rfl (fun r hr=>(ht.one d.C hj ho).rip r hr) rfl rfl rfl
def Wit (w:Wld) (i h:Int):Prop :=
 ((zc w.p.Links i).Fresh=true∧h≤w.p.Height+1) ∨
 (∃ q,(q∈(zb w.consumers i).Pending∨zca q=0∧pkT q∈(zc w.p.Links i).Out.Said.drop (zc w.p.Links i).Out.Got.toNat)∧h≤q.Id) ∨
 (∃ r,r∈(zb w.consumers i).Ripes∧h≤r.Id) ∨
 (∃ q,zca q=0∧q.Kind=2∧pkT q∈(zb w.consumers i).Out.Said.drop (zb w.consumers i).Out.Got.toNat∧h≤q.Id) ∨
 (∃ a,a∈w.p.Queue∧a.C=i∧a.P.Kind=2∧h≤a.P.Id)
theorem Wit.mono {w w':Wld} {i h:Int} (k:Wit w i h) (f:(zc w.p.Links i).Fresh=true→(zc w'.p.Links i).Fresh=true) (H:w.p.Height≤w'.p.Height)
  (P:∀ q,q∈(zb w.consumers i).Pending→q∈(zb w'.consumers i).Pending)
  (S:∀ s,s∈(zc w.p.Links i).Out.Said.drop (zc w.p.Links i).Out.Got.toNat→s∈(zc w'.p.Links i).Out.Said.drop (zc w'.p.Links i).Out.Got.toNat)
  (R:∀ r,r∈(zb w.consumers i).Ripes→r∈(zb w'.consumers i).Ripes)
  (B:∀ s,s∈(zb w.consumers i).Out.Said.drop (zb w.consumers i).Out.Got.toNat→s∈(zb w'.consumers i).Out.Said.drop (zb w'.consumers i).Out.Got.toNat)
  (Q:∀ a,a∈w.p.Queue→a.C=i→a∈w'.p.Queue):Wit w' i h:=by
 rcases k with ⟨k1,k2⟩ | ⟨q,k1,k2⟩ | ⟨r,k1,k2⟩ | ⟨q,k0,k1,k2,k3⟩ | ⟨a,k0,k1,k2,k3⟩
 ·exact .inl ⟨f k1,by omega⟩
 ·refine .inr (.inl ⟨q,?_,k2⟩)
  rcases k1 with k1 | ⟨k1,k3⟩
  ·exact .inl (P q k1)
  ·exact .inr ⟨k1,S _ k3⟩
 ·exact .inr (.inr (.inl ⟨r,R r k1,k2⟩))
 ·exact .inr (.inr (.inr (.inl ⟨q,k0,k1,B _ k2,k3⟩)))
 ·exact .inr (.inr (.inr (.inr ⟨a,Q a k0 k1,k1,k2,k3⟩)))
structure za0d (w:Wld) (x:Wait):Prop where
 due:x.Due≤w.clock+20
 height:x.Height≤w.p.Height+1
 top:∀ i:Int,0≤i∧i < 2→0≤hN x i∧hN x i≤w.p.Height+1
 hold:∀ i:Int,0≤i∧i < 2→0 < hN x i→(zb w.consumers i).On=true∧Wit w i (hN x i)
def HoldW (w:Wld):Prop:=∀ x,x∈w.p.Stake.Waits→za0d w x
theorem zali:HoldW newW:=fun x hx=>by cases hx
theorem HoldW.keep {w w':Wld} (h:HoldW w) (hp:0≤w.p.Height) (hW:NearW w.p.Stake.Waits w'.p.Stake.Waits) (hH:w'.p.Height=w.p.Height) (ht:w.clock≤w'.clock)
  (hk:∀ i n:Int,0≤i∧i < 2→(zb w.consumers i).On=true→Wit w i n→(zb w'.consumers i).On=true∧Wit w' i n):HoldW w':=by
 intro x hx
 obtain ⟨y,hy,n⟩:=hW x hx
 obtain ⟨a1,a2,a3,a4⟩:=h y hy
 refine ⟨by rw[n.due];omega,by rw[n.height,hH];exact a2,fun i hi=>?_,fun i hi h0=>?_⟩
 ·rw[hH]
  rcases n.hold i hi with e | e
  ·rw[e];exact a3 i hi
  ·rw[e];omega
 ·rcases n.hold i hi with e | e
  ·rw[e] at h0 ⊢
   obtain ⟨k1,k2⟩:=a4 i hi h0
   exact hk i _ hi k1 k2
  ·omega
theorem ztl {α:Type} {l m:List α} {n:Nat} {x:α} (h:x∈l.drop n):x∈(l++m).drop n:=by
 rw[List.drop_append];exact List.mem_append_left _ h
theorem zxr {l:List ByteArray} {n:Nat} (h:n < l.length) {s:ByteArray} (hs:s∈l.drop n):s=l.getD n .empty∨s∈l.drop (n+1):=by
 rw[za0 h .empty] at hs
 rcases List.mem_cons.1 hs with e | e
 ·exact .inl e
 ·exact .inr e
theorem z6p {c H:Int} {x:Wait} {i:Int} (hi:0≤i∧i < 2):hN (zdc c H x) i=if H < x.Height∧c=i then x.Height else hN x i:=by
 unfold zdc
 by_cases e:H < x.Height
 ·rw[if_pos e]
  rcases (show i=0∨i=1 by omega) with rfl | rfl
  ·show (if c=0 then x.Height else x.h0)=_
   by_cases k:c=0
   ·rw[if_pos k,if_pos ⟨e,k⟩]
   ·rw[if_neg k,if_neg (fun z=>k z.2)];rfl
  ·show (if c=1 then x.Height else x.h1)=_
   by_cases k:c=1
   ·rw[if_pos k,if_pos ⟨e,k⟩]
   ·rw[if_neg k,if_neg (fun z=>k z.2)];rfl
 ·rw[if_neg e,if_neg (fun z=>e z.1)]
theorem HoldW.one {w w':Wld} (h:OkW w) (hh:HoldW w) {j:Int} (hj:0≤j∧j < 2) (hW:w'.p.Stake.Waits=w.p.Stake.Waits) (hH:w'.p.Height=w.p.Height) (ht:w'.clock=w.clock)
  (hl:∀ i:Int,0≤i∧i < 2→i≠j→zc w'.p.Links i=zc w.p.Links i∧zb w'.consumers i=zb w.consumers i) (hQ:∀ a,a∈w.p.Queue→a∈w'.p.Queue)
  (hon:(zb w'.consumers j).On=(zb w.consumers j).On) (hk:∀ n:Int,Wit w j n→Wit w' j n):HoldW w':=by
 refine hh.keep h.p.2.1.1 (by rw[hW];exact .refl _) hH (by rw[ht];exact Int.le_refl _) fun i n hi ho k=>?_
 by_cases e:i=j
 ·subst e;exact ⟨hon.trans ho,hk n k⟩
 ·obtain ⟨e1,e2⟩:=hl i hi e
  exact ⟨by rw[e2];exact ho,k.mono (by rw[e1];exact id) (by rw[hH];exact Int.le_refl _) (by rw[e2];exact fun _ h=>h) (by rw[e1];exact fun _ h=>h) (by rw[e2];exact fun _ h=>h) (by rw[e2];exact fun _ h=>h) (fun a ha _=>hQ a ha)⟩
theorem zae7 {w:Wld} (h:OkW w) (h4:w.p.Height < 399) (ht:OneW w) (hh:HoldW w):HoldW (zlh w):=by
 have hg:zag w.p=true∧w.p.Time≤w.clock∧w.clock≤1099511627776:=⟨h.pr,h.pt,by have:=h.t1;omega⟩
 obtain ⟨r1,r2,r3,r4,r5,-⟩:=zxo hg
 have eH:(zlh w).p.Height=w.p.Height+1:=r1
 have eQ:(zlh w).p.Queue=(zc0 w.p w.clock).2.2:=r5
 have eW:(zlh w).p.Stake.Waits=(zc0 w.p w.clock).1.Stake.Waits.filter (fun x => !z27 w.clock x):=z86 hg
 have hn:NearW w.p.Stake.Waits (zc0 w.p w.clock).1.Stake.Waits:=(zyk w.p.Queue (zor w.p w.clock,⟨false,false⟩,[])).2
 have hf:∀ a,a∈w.p.Queue→a.P.Kind=2→a∈(zc0 w.p w.clock).2.2∨Freed (zc0 w.p w.clock).1.Stake.Waits a.C a.P.Id:=z4i w.p.Queue (zor w.p w.clock,⟨false,false⟩,[]) (fun a ha=>(z11 h.pr a ha).2)
 have hH0:=h.p.2.1.1
 intro x hx
 rw[eW] at hx
 have hx:=(List.mem_filter.1 hx).1
 obtain ⟨y,hy,n⟩:=hn x hx
 obtain ⟨a1,a2,a3,a4⟩:=hh y hy
 refine ⟨by rw[n.due];exact a1,by rw[n.height,eH];omega,fun i hi=>?_,fun i hi h0=>?_⟩
 ·rw[eH]
  rcases n.hold i hi with e | e
  ·rw[e];have:=a3 i hi;omega
  ·rw[e];omega
 ·have e:hN x i=hN y i:=by
   rcases n.hold i hi with e | e
   ·exact e
   ·omega
  obtain ⟨ho,k⟩:=a4 i hi (by omega)
  refine ⟨ho,?_⟩
  obtain ⟨b1,b2,b3,-⟩:=ht.one i hi ho
  obtain ⟨D',-,hD⟩:=z6i hg hi
  have ef:zfn (zjj w.p w.clock).1.Links i=(zc (zlh w).p.Links i).Out:=rfl
  have eg:zfn w.p.Links i=(zc w.p.Links i).Out:=rfl
  have eF:(zjj w.p w.clock).1.Links.Fresh.get i=(zc (zlh w).p.Links i).Fresh:=rfl
  have eG:w.p.Links.Fresh.get i=(zc w.p.Links i).Fresh:=rfl
  have eO:w.p.Links.On.get i=true:=by rw[← (h.c i hi).on];exact ho
  rw[ef,eg,eG,eO] at hD
  have gotL:(zc w.p.Links i).Out.Got.toNat≤(zc w.p.Links i).Out.Said.length:=by
   have gl:=(h.p.lk hi).line
   have g2:(zc w.p.Links i).Out.Got≤(((zc w.p.Links i).Out.Said.length:Nat):Int):=gl.2.2.2.1
   omega
  have hway:∀ s,s∈(zc w.p.Links i).Out.Said.drop (zc w.p.Links i).Out.Got.toNat→s∈(zc (zlh w).p.Links i).Out.Said.drop (zc (zlh w).p.Links i).Out.Got.toNat:=by
   intro s hs
   rcases hD with ⟨-,-,-,e4,-⟩ | ⟨-,-,-,-,-,-,-,-,e9⟩
   ·rw[e4];exact hs
   ·rw[e9];exact ztl hs
  rcases k with ⟨k1,k2⟩ | ⟨q,k1,k2⟩ | ⟨r,k1,k2⟩ | ⟨q,k0,k1,k2,k3⟩ | ⟨a,k0,k1,k2,k3⟩
  ·rcases hD with ⟨-,-,-,e4,e5⟩ | ⟨-,-,-,-,-,-,-,e8,e9⟩
   ·rcases e5 with e5 | e5 | e5 | e5
    ·cases e5
    ·rw[k1] at e5;cases e5.2.2
    ·rw[b1] at e5;cases e5
    ·omega
   ·refine .inr (.inl ⟨_,.inr ⟨e8,?_⟩,?_⟩)
    ·rw[e9]
     show _∈((zc w.p.Links i).Out.Said++[_]).drop _
     rw[zaik gotL]
     exact List.mem_append_right _ (List.mem_singleton.2 rfl)
    ·show hN x i≤(zjj w.p w.clock).1.Height
     rw[r1,e];exact k2
  ·refine .inr (.inl ⟨q,?_,by rw[e];exact k2⟩)
   rcases k1 with k1 | ⟨k1,k3⟩
   ·exact .inl k1
   ·exact .inr ⟨k1,hway _ k3⟩
  ·exact .inr (.inr (.inl ⟨r,k1,by rw[e];exact k2⟩))
  ·exact .inr (.inr (.inr (.inl ⟨q,k0,k1,k2,by rw[e];exact k3⟩)))
  ·rcases hf a k0 k2 with z | z
   ·exact .inr (.inr (.inr (.inr ⟨a,by rw[eQ];exact z,k1,k2,by rw[e];exact k3⟩)))
   ·rw[k1] at z
    rcases z x hx with z | z
    ·omega
    ·omega
theorem zap2 {w:Wld} (h:OkW w) (hd:w.deeds < 600) (h4:w.p.Height < 399) (ht:OneW w) (hh:HoldW w) (d:Deed):HoldW (doW w d).1:=by
 have h0:=h.p.2.1.1
 have st:∀ s:Stake,NearW w.p.Stake.Waits s.Waits→HoldW (z83 w s):=fun s n=>hh.keep h0 n rfl (Int.le_refl _) (fun i n hi ho k=>⟨ho,k.mono id (Int.le_refl _) (fun _ h=>h) (fun _ h=>h) (fun _ h=>h) (fun _ h=>h) (fun _ h _=>h)⟩)
 refine z6n h hd d (P:=fun w' r=>HoldW w') ?_ ?_ ?_ ?_ ?_ ?_ ?_ ?_ ?_ ?_ ?_ ?_ ?_ ?_ ?_
 ·intro w' r a _
  exact hh.keep h0 (by rw[a.p];exact .refl _) (by rw[a.p]) (by rw[a.t];exact Int.le_refl _) (fun i n hi ho k=>⟨by rw[a.c];exact ho,k.mono (by rw[a.p];exact id) (by rw[a.p];exact Int.le_refl _) (by rw[a.c];exact fun _ h=>h) (by rw[a.p];exact fun _ h=>h) (by rw[a.c];exact fun _ h=>h) (by rw[a.c];exact fun _ h=>h) (by rw[a.p];exact fun _ h _=>h)⟩)
 ·intro _ _;exact st _ (by rw[zut];exact .refl _)
 ·intro _ k0
  obtain ⟨_,_,_,_,_,_,_,_,_,e⟩:=zrl k0
  rw[e]
  have hk:∀ i n:Int,0≤i∧i < 2→(zb w.consumers i).On=true→Wit w i n→Wit (zamn w (subS w.p.Stake (zb3 w.p.Stake.Bank 4 5 (zg7 w.p.Stake d.V d.N)).1 d.D d.V (zg7 w.p.Stake d.V d.N) d.N (zzn w.p w.clock))) i n:=by
   intro i n hi ho k
   refine k.mono (fun f=>?_) (Int.le_refl _) (fun _ h=>h) (fun _ h=>h) (fun _ h=>h) (fun _ h=>h) (fun _ h _=>h)
   rcases (show i=0∨i=1 by omega) with rfl | rfl
   ·show (w.p.Links.Fresh.x0||w.p.Links.On.x0)=true
    have f:w.p.Links.Fresh.x0=true:=f
    rw[f];rfl
   ·show (w.p.Links.Fresh.x1||w.p.Links.On.x1)=true
    have f:w.p.Links.Fresh.x1=true:=f
    rw[f];rfl
  intro x hx
  have hx:x∈w.p.Stake.Waits++[_]:=hx
  rcases List.mem_append.1 hx with hx | hx
  ·obtain ⟨a1,a2,a3,a4⟩:=hh x hx
   exact ⟨a1,a2,a3,fun i hi hp=>⟨(a4 i hi hp).1,hk i _ hi (a4 i hi hp).1 (a4 i hi hp).2⟩⟩
  ·have hx:=List.mem_singleton.1 hx
   subst hx
   refine ⟨Int.le_refl _,Int.le_refl _,fun i hi=>?_,fun i hi hp=>?_⟩
   ·rcases (show i=0∨i=1 by omega) with rfl | rfl
    ·show 0≤(if w.p.Links.On.x0=true then w.p.Height+1 else 0)∧(if w.p.Links.On.x0=true then w.p.Height+1 else 0)≤w.p.Height+1
     split<;>omega
    ·show 0≤(if w.p.Links.On.x1=true then w.p.Height+1 else 0)∧(if w.p.Links.On.x1=true then w.p.Height+1 else 0)≤w.p.Height+1
     split<;>omega
   ·have on:w.p.Links.On.get i=true:=by
     rcases (show i=0∨i=1 by omega) with rfl | rfl
     ·have hp:0 < (if w.p.Links.On.x0=true then w.p.Height+1 else 0):=hp
      split at hp
      ·assumption
      ·omega
     ·have hp:0 < (if w.p.Links.On.x1=true then w.p.Height+1 else 0):=hp
      split at hp
      ·assumption
      ·omega
    refine ⟨by show (zb w.consumers i).On=true;rw[(h.c i hi).on];exact on,.inl ⟨?_,?_⟩⟩
    ·rcases (show i=0∨i=1 by omega) with rfl | rfl
     ·show (w.p.Links.Fresh.x0||w.p.Links.On.x0)=true
      have on:w.p.Links.On.x0=true:=on
      rw[on,Bool.or_true]
     ·show (w.p.Links.Fresh.x1||w.p.Links.On.x1)=true
      have on:w.p.Links.On.x1=true:=on
      rw[on,Bool.or_true]
    ·rcases (show i=0∨i=1 by omega) with rfl | rfl
     ·show (if w.p.Links.On.x0=true then w.p.Height+1 else 0)≤w.p.Height+1
      split<;>omega
     ·show (if w.p.Links.On.x1=true then w.p.Height+1 else 0)≤w.p.Height+1
      split<;>omega
 ·intro _ _;exact st _ (by rw[zgj];exact .refl _)
 ·intro _ _ _ _;exact st _ (by rw[zgj];exact z4h _ _ _ _)
 ·intro _ h1 _
  exact hh.keep h0 (.refl _) rfl (by show w.clock≤w.clock+d.N;omega) (fun i n hi ho k=>⟨ho,k.mono id (Int.le_refl _) (fun _ h=>h) (fun _ h=>h) (fun _ h=>h) (fun _ h=>h) (fun _ h _=>h)⟩)
 ·intro _;exact zae7 h h4 ht hh
 ·intro _ hj _ hon _ _
  intro x hx
  have hx:x∈w.p.Stake.Waits.map (zdc d.C w.p.Height):=hx
  obtain ⟨y,hy,rfl⟩:=List.mem_map.1 hx
  obtain ⟨a1,a2,a3,a4⟩:=hh y hy
  have ed:(zdc d.C w.p.Height y).Due=y.Due:=by unfold zdc;split<;>rfl
  have eh:(zdc d.C w.p.Height y).Height=y.Height:=by unfold zdc;split<;>rfl
  refine ⟨by rw[ed];exact a1,by rw[eh];exact a2,fun i hi=>?_,fun i hi hp=>?_⟩
  ·rw[z6p hi]
   split
   ·rename_i z;have z2:y.Height≤w.p.Height+1:=a2;exact ⟨by omega,a2⟩
   ·exact a3 i hi
  ·have el:zc (zabe w d.C).p.Links i=_:=zlg (L:=w.p.Links) (H:=w.p.Height) (T:=w.p.Set) (f:=ztj w.p) hj hi
   have off:(zb w.consumers d.C).On=false:=by rw[(h.c d.C hj).on];exact hon
   rw[z6p hi] at hp ⊢
   rcases zty (C:=w.consumers) hj hi (zlf w.p.Set w.p.Height w.clock) with ⟨e,ec⟩ | ⟨e,ec⟩
   ·have ec:zb (zabe w d.C).consumers i=zlf w.p.Set w.p.Height w.clock:=ec
    rw[if_pos e] at el
    by_cases k:w.p.Height < y.Height
    ·rw[if_pos ⟨k,e.symm⟩]
     refine ⟨by rw[ec];rfl,.inl ⟨?_,a2⟩⟩
     rw[el]
     show ztj w.p=true
     unfold ztj
     exact List.any_eq_true.2 ⟨y,hy,by simpa using k⟩
    ·rw[if_neg (fun z=>k z.1)] at hp
     have:=(a4 i hi hp).1
     rw[e,off] at this;cases this
   ·have ec:zb (zabe w d.C).consumers i=zb w.consumers i:=ec
    rw[if_neg e] at el
    rw[if_neg (fun z=>e z.2.symm)] at hp ⊢
    obtain ⟨k1,k2⟩:=a4 i hi hp
    exact ⟨by rw[ec];exact k1,k2.mono (by rw[el];exact id) (Int.le_refl _) (by rw[ec];exact fun _ h=>h) (by rw[el];exact fun _ h=>h) (by rw[ec];exact fun _ h=>h) (by rw[ec];exact fun _ h=>h) (fun _ h _=>h)⟩
 ·intro _ hj ho
  obtain ⟨k,R,eR,hk,f1,f2,f3,f4,f5,f6,-⟩:=z4j h hd hj ho
  have ec:zb (zt8 w d.C).consumers d.C=(zxs w.clock (zb w.consumers d.C)).1:=zcx hj _
  refine HoldW.one h hh hj rfl rfl rfl (fun i hi e=>⟨rfl,zby hj hi e _⟩) (fun _ h=>h) (by rw[ec,f4,ho]) fun n K=>?_
  have rip:∀ r,r∈R→n≤r.Id→Wit (zt8 w d.C) d.C n:=by
   intro r hr hn
   rw[← List.take_append_drop k R] at hr
   rcases List.mem_append.1 hr with hr' | hr'
   ·refine .inr (.inr (.inr (.inl ⟨matP r,z18 (f6 r (List.mem_of_mem_take hr')),rfl,?_,hn⟩)))
    rw[ec,f3]
    show pkT (matP r)∈((zb w.consumers d.C).Out.Said++(R.take k).map matT).drop (zb w.consumers d.C).Out.Got.toNat
    have gl:=(zbq (h.c d.C hj).good).2.1
    have g1:=gl.2.2.1;have g2:=gl.2.2.2.1
    rw[List.drop_append_of_le_length (by omega)]
    exact List.mem_append_right _ (List.mem_map.2 ⟨r,hr',rfl⟩)
   ·exact .inr (.inr (.inl ⟨r,by rw[ec,f2];exact hr',hn⟩))
  rcases K with ⟨k1,k2⟩ | ⟨q,k1,k2⟩ | ⟨r,k1,k2⟩ | ⟨q,k0,k1,k2,k3⟩ | ⟨a,k0,k1,k2,k3⟩
  ·exact .inl ⟨k1,k2⟩
  ·rcases k1 with k1 | k1
   ·exact rip ⟨q.Id,w.clock+15⟩ (by rw[eR];exact List.mem_append_right _ (List.mem_map.2 ⟨q,k1,rfl⟩)) k2
   ·exact .inr (.inl ⟨q,.inr k1,k2⟩)
  ·exact rip r (by rw[eR];exact List.mem_append_left _ k1) k2
  ·refine .inr (.inr (.inr (.inl ⟨q,k0,k1,?_,k3⟩)))
   rw[ec,f3];exact ztl k2
  ·exact .inr (.inr (.inr (.inr ⟨a,k0,k1,k2,k3⟩)))
 ·intro _ hj ho _
  have el:∀ i:Int,0≤i∧i < 2→(zc (zae4 w d.C).p.Links i).Out=(zc w.p.Links i).Out∧(zc (zae4 w d.C).p.Links i).Fresh=(zc w.p.Links i).Fresh:=by
   intro i hi
   have:zc (zae4 w d.C).p.Links i=_:=z15 (L:=w.p.Links) hj hi (zak6 w.heads d.C)
   rw[this];split<;>exact ⟨rfl,rfl⟩
  exact hh.keep h0 (.refl _) rfl (Int.le_refl _) (fun i n hi ho k=>⟨ho,k.mono (by rw[(el i hi).2];exact id) (Int.le_refl _) (fun _ h=>h) (by rw[(el i hi).1];exact fun _ h=>h) (fun _ h=>h) (fun _ h=>h) (fun _ h _=>h)⟩)
 ·intro _ hj ho _
  have ec:zb (zkf w.consumers d.C { zb w.consumers d.C with Seen:=zaa5 w.heads d.C }) d.C=_:=zcx hj _
  refine HoldW.one h hh hj rfl rfl rfl (fun i hi e=>⟨rfl,zby hj hi e _⟩) (fun _ h=>h) (by have z:=congrArg Consumer.On ec;exact z) fun n K=>?_
  refine K.mono id (Int.le_refl _) ?_ (fun _ h=>h) ?_ ?_ (fun _ h _=>h)
  all_goals
   show ∀ q,q∈_→q∈_
   intro q hq
   show q∈_
   first | (show q∈(zb (zkf w.consumers d.C { zb w.consumers d.C with Seen:=zaa5 w.heads d.C }) d.C).Pending;rw[ec];exact hq) | (show q∈(zb (zkf w.consumers d.C { zb w.consumers d.C with Seen:=zaa5 w.heads d.C }) d.C).Ripes;rw[ec];exact hq) | (show q∈(zb (zkf w.consumers d.C { zb w.consumers d.C with Seen:=zaa5 w.heads d.C }) d.C).Out.Said.drop (zb (zkf w.consumers d.C { zb w.consumers d.C with Seen:=zaa5 w.heads d.C }) d.C).Out.Got.toNat;rw[ec];exact hq)
 ·intro q _ hj ho _ hcm hq1
  obtain ⟨g1,g2,g3,g4,g5,g6,g7⟩:=hcm
  have ec:zb (gotB w d.C q).consumers d.C=_:=zcx hj _
  refine HoldW.one h hh hj rfl rfl rfl (fun i hi e=>⟨rfl,zby hj hi e _⟩) (fun _ h=>List.mem_append_left _ h) (by have z:=congrArg Consumer.On ec;exact z) fun n K=>?_
  rcases K with ⟨k1,k2⟩ | ⟨p,k1,k2⟩ | ⟨r,k1,k2⟩ | ⟨p,k0,k1,k2,k3⟩ | ⟨a,k0,k1,k2,k3⟩
  ·exact .inl ⟨k1,k2⟩
  ·refine .inr (.inl ⟨p,?_,k2⟩)
   rcases k1 with k1 | k1
   ·left;rw[ec];exact k1
   ·exact .inr k1
  ·exact .inr (.inr (.inl ⟨r,by rw[ec];exact k1,k2⟩))
  ·have gp:0≤(zb w.consumers d.C).Out.Got:=g1.2.2.1
   have g3:(zb w.consumers d.C).Out.Got.toNat < (zb w.consumers d.C).Out.Said.length:=g3
   have g5:(zb w.consumers d.C).Out.Said.getD (zb w.consumers d.C).Out.Got.toNat .empty=pkT q:=g5
   rcases zxr g3 k2 with e | e
   ·rw[g5] at e
    have e:=zaij k0 g7 e
    subst e
    exact .inr (.inr (.inr (.inr ⟨⟨d.C,p⟩,List.mem_append_right _ (List.mem_singleton.2 rfl),rfl,k1,k3⟩)))
   ·refine .inr (.inr (.inr (.inl ⟨p,k0,k1,?_,k3⟩)))
    rw[ec]
    show pkT p∈(zb w.consumers d.C).Out.Said.drop ((zb w.consumers d.C).Out.Got+1).toNat
    rw[show ((zb w.consumers d.C).Out.Got+1).toNat=(zb w.consumers d.C).Out.Got.toNat+1 by omega]
    exact e
  ·exact .inr (.inr (.inr (.inr ⟨a,List.mem_append_left _ k0,k1,k2,k3⟩)))
 ·intro q _ hj ho _ hcm hq1
  obtain ⟨g1,g2,g3,g4,g5,g6,g7⟩:=hcm
  have ec:zb (gotF w d.C q).consumers d.C=_:=zcx hj _
  have el:∀ i:Int,0≤i∧i < 2→zc (gotF w d.C q).p.Links i=_:=fun i hi=>zqf (L:=w.p.Links) hj hi { (zc w.p.Links d.C).Out with Got:=(zc w.p.Links d.C).Out.Got+1 }
  have ed:=el d.C hj
  rw[if_pos rfl] at ed
  refine HoldW.one h hh hj rfl rfl rfl (fun i hi e=>⟨by rw[el i hi,if_neg e],zby hj hi e _⟩) (fun _ h=>h) (by have z:=congrArg Consumer.On ec;exact z) fun n K=>?_
  rcases K with ⟨k1,k2⟩ | ⟨p,k1,k2⟩ | ⟨r,k1,k2⟩ | ⟨p,k0,k1,k2,k3⟩ | ⟨a,k0,k1,k2,k3⟩
  ·exact .inl ⟨by rw[ed];exact k1,k2⟩
  ·have gp:0≤(zc w.p.Links d.C).Out.Got:=g1.2.2.1
   have g3:(zc w.p.Links d.C).Out.Got.toNat < (zc w.p.Links d.C).Out.Said.length:=g3
   have g5:(zc w.p.Links d.C).Out.Said.getD (zc w.p.Links d.C).Out.Got.toNat .empty=pkT q:=g5
   refine .inr (.inl ⟨p,?_,k2⟩)
   rcases k1 with k1 | ⟨k0,k1⟩
   ·left;rw[ec];exact List.mem_append_left _ k1
   ·rcases zxr g3 k1 with e | e
    ·rw[g5] at e
     have e:=zaij k0 g7 e
     subst e
     left;rw[ec];exact List.mem_append_right _ (List.mem_singleton.2 rfl)
    ·refine .inr ⟨k0,?_⟩
     rw[ed]
     show pkT p∈(zc w.p.Links d.C).Out.Said.drop ((zc w.p.Links d.C).Out.Got+1).toNat
     rw[show ((zc w.p.Links d.C).Out.Got+1).toNat=(zc w.p.Links d.C).Out.Got.toNat+1 by omega]
     exact e
  ·exact .inr (.inr (.inl ⟨r,by rw[ec];exact k1,k2⟩))
  ·exact .inr (.inr (.inr (.inl ⟨p,k0,k1,by rw[ec];exact k2,k3⟩)))
  ·exact .inr (.inr (.inr (.inr ⟨a,k0,k1,k2,k3⟩)))
 ·intro _ hj ho _
  have hd1:=h.ph;have hd2:=h.d1
  intro x hx
  have hx:x∈w.p.Stake.Waits.map (z59 d.C 1099511627776):=hx
  obtain ⟨y,hy,rfl⟩:=List.mem_map.1 hx
  obtain ⟨a1,a2,a3,a4⟩:=hh y hy
  refine ⟨a1,a2,fun i hi=>?_,fun i hi hp=>?_⟩
  ·rw[z4g hi]
   show 0≤(if d.C=i∧hN y i≤1099511627776 then 0 else hN y i)∧(if d.C=i∧hN y i≤1099511627776 then 0 else hN y i)≤w.p.Height+1
   split
   ·omega
   ·exact a3 i hi
  ·rw[z4g hi] at hp ⊢
   by_cases e:i=d.C
   ·have:=a3 i hi
    rw[if_pos ⟨e.symm,by omega⟩] at hp;omega
   ·rw[if_neg (fun z=>e z.1.symm)] at hp ⊢
    obtain ⟨k1,k2⟩:=a4 i hi hp
    have ec:zb (zae5 w d.C).consumers i=zb w.consumers i:=zby hj hi e _
    have el:zc (zae5 w d.C).p.Links i=_:=zku (L:=w.p.Links) hj hi
    rw[if_neg e] at el
    refine ⟨by rw[ec];exact k1,k2.mono (by rw[el];exact id) (Int.le_refl _) (by rw[ec];exact fun _ h=>h) (by rw[el];exact fun _ h=>h) (by rw[ec];exact fun _ h=>h) (by rw[ec];exact fun _ h=>h) (fun a ha hc=>?_)⟩
    refine List.mem_filter.2 ⟨ha,?_⟩
    unfold zzo
    rw[hc];simpa using e
 ·intro q f _ hj ho _ _ _ _
  have ec:zb (zabf w d.C (zaun w d.C q f)).consumers d.C=_:=zcx hj _
  refine HoldW.one h hh hj rfl rfl rfl (fun i hi e=>⟨rfl,zby hj hi e _⟩) (fun _ h=>h) (by have z:=congrArg Consumer.On ec;exact z) fun n K=>?_
  rcases K with ⟨k1,k2⟩ | ⟨p,k1,k2⟩ | ⟨r,k1,k2⟩ | ⟨p,k0,k1,k2,k3⟩ | ⟨a,k0,k1,k2,k3⟩
  ·exact .inl ⟨k1,k2⟩
  ·refine .inr (.inl ⟨p,?_,k2⟩)
   rcases k1 with k1 | k1
   ·left;rw[ec];exact k1
   ·exact .inr k1
  ·exact .inr (.inr (.inl ⟨r,by rw[ec];exact k1,k2⟩))
  ·exact .inr (.inr (.inr (.inl ⟨p,k0,k1,by rw[ec];exact ztl k2,k3⟩)))
  ·exact .inr (.inr (.inr (.inr ⟨a,k0,k1,k2,k3⟩)))
def fwdN (w:Wld) (i:Int):Int:=(((zc w.p.Links i).Out.Said.length:Nat):Int) - (zc w.p.Links i).Out.Got
def sdN (w:Wld) (i:Int):Int:=(((zb w.consumers i).Out.Said.length:Nat):Int)
def bckN (w:Wld) (i:Int):Int:=sdN w i - (zb w.consumers i).Out.Got
def zaim (w:Wld) (i:Int):Int:=(((zb w.consumers i).Pending.length+(zb w.consumers i).Ripes.length:Nat):Int)
def cntN (w:Wld) (i:Int):Int:=sdN w i+zaim w i+fwdN w i
def phiN (w:Wld) (i:Int):Int:=if (zb w.consumers i).On=true then 2*fwdN w i+zaim w i+bckN w i+2 else 0
structure Meas (w w':Wld) (i a b:Int):Prop where
 cnt:(zb w'.consumers i).On=true→cntN w' i≤(if (zb w.consumers i).On=true then cntN w i else 0)+a
 phi:phiN w' i≤phiN w i+b
theorem Meas.of {w w':Wld} {i a b:Int} (ho:(zb w'.consumers i).On=(zb w.consumers i).On) (x y z u:Int) (e1:fwdN w' i=fwdN w i+x) (e2:zaim w' i=zaim w i+y) (e3:bckN w' i=bckN w i+z) (e4:sdN w' i=sdN w i+u)
  (k1:u+y+x≤a) (k2:2*x+y+z≤b) (k3:0≤b):Meas w w' i a b:=by
 refine ⟨fun h=>?_,?_⟩
 ·rw[ho] at h
  rw[if_pos h]
  unfold cntN;omega
 ·unfold phiN
  rw[ho]
  split<;>omega
theorem Meas.same {w w':Wld} {i a b:Int} (h1:zb w'.consumers i=zb w.consumers i) (h2:(zc w'.p.Links i).Out=(zc w.p.Links i).Out) (ha:0≤a) (hb:0≤b):Meas w w' i a b :=
 .of (by rw[h1]) 0 0 0 0 (by unfold fwdN;rw[h2];omega) (by unfold zaim;rw[h1];omega) (by unfold bckN sdN;rw[h1];omega) (by unfold sdN;rw[h1];omega) (by omega) (by omega) hb
structure za0e (w:Wld):Prop where
 ok:OkW w
 told:za0c w
 one:OneW w
 hold:HoldW w
 h4:w.p.Height < 399
def psiN (w:Wld):Int:=w.deeds+phiN w 0+phiN w 1
structure Fr (w w':Wld) (i:Int):Prop where
 clock:w'.clock=w.clock
 height:w'.p.Height=w.p.Height
 set:w'.p.Set=w.p.Set
 vals:w'.p.Stake.Validators=w.p.Stake.Validators
 met:w'.p.Meter=w.p.Meter
 other:∀ j:Int,0≤j∧j < 2→j≠i→zb w'.consumers j=zb w.consumers j∧zc w'.p.Links j=zc w.p.Links j
 waits:NearW w.p.Stake.Waits w'.p.Stake.Waits
theorem Fr.refl (w:Wld) (i:Int):Fr w w i:=⟨rfl,rfl,rfl,rfl,rfl,fun _ _ _=>⟨rfl,rfl⟩,.refl _⟩
theorem Fr.trans {a b c:Wld} {i:Int} (h:Fr a b i) (k:Fr b c i):Fr a c i :=
 ⟨k.clock.trans h.clock,k.height.trans h.height,k.set.trans h.set,k.vals.trans h.vals,k.met.trans h.met,fun j hj e=>⟨(k.other j hj e).1.trans (h.other j hj e).1,(k.other j hj e).2.trans (h.other j hj e).2⟩,h.waits.trans k.waits⟩
structure SameP (h h':zt0):Prop where
 time:h'.PTime=h.PTime
 got:h'.PGot=h.PGot
 said:h'.PSaid=h.PSaid
theorem SameP.refl (h:zt0):SameP h h:=⟨rfl,rfl,rfl⟩
theorem SameP.trans {a b c:zt0} (h:SameP a b) (k:SameP b c):SameP a c:=⟨k.time.trans h.time,k.got.trans h.got,k.said.trans h.said⟩
def ripR (w:Wld) (i:Int):List Ripe:=(zb w.consumers i).Ripes++(zb w.consumers i).Pending.map (fun p=>(⟨p.Id,w.clock+15⟩:Ripe))
structure Done (w:Wld) (i:Int) (k:Nat):Prop where
 k0:k≤(ripR w i).length
 live:za0e (zt8 w i)
 psi:psiN (zt8 w i)≤psiN w+1
 on:(zb (zt8 w i).consumers i).On=true
 pend:(zb (zt8 w i).consumers i).Pending=[]
 ripes:(zb (zt8 w i).consumers i).Ripes=(ripR w i).drop k
 said:(zb (zt8 w i).consumers i).Out.Said=(zb w.consumers i).Out.Said++((ripR w i).take k).map matT
 got:(zb (zt8 w i).consumers i).Out.Got=(zb w.consumers i).Out.Got
 ok:∀ r,r∈ripR w i→zji r=true
 all:(∀ r,r∈ripR w i→r.Due≤w.clock)→cntN w i < 400→(ripR w i).drop k=[]
 hp:SameP w.heads (zt8 w i).heads
 ctime:(zt8 w i).heads.CTime.get i=w.clock
 cgot:(zt8 w i).heads.CGot.get i=(zc w.p.Links i).Out.Got
 csaid:(zt8 w i).heads.CSaid.get i=(((zb (zt8 w i).consumers i).Out.Said.length:Nat):Int)
 cnt:cntN (zt8 w i) i≤cntN w i
def ChainP (H:Int→List Power→Prop):Int→List Power→List Packet→Prop
 | id,s,[]=>H id s
 | id,s,q::l=>H id s∧ChainP H q.Id (zxd s q.Set) l
theorem ChainP.mono {H K:Int→List Power→Prop} {m:Int} (hk:∀ n s,m≤n→H n s→K n s):∀ {l:List Packet} {id:Int} {s:List Power},m≤id→zapz id l→ChainP H id s l→ChainP K id s l
 | [],_,_,hm,_,h=>hk _ _ hm h
 | q::l,id,_,hm,hr,h=>⟨hk _ _ hm h.1,h.2.mono hk (by have:=hr.1;omega) hr.2⟩
theorem ChainP.tail {H:Int→List Power→Prop}:∀ {l m:List Packet} {id:Int} {s:List Power},ChainP H id s (l++m)→ChainP H (zapy id l) (zalf s l) m
 | [],_,_,_,h=>h
 | _::l,m,_,_,h=>ChainP.tail (l:=l) h.2
def SetsI (H:Int→List Power→Prop) (w:Wld) (i:Int):Prop:=∃ ms,WayI w i ms∧ChainP H (zb w.consumers i).Id (zb w.consumers i).Set ((zb w.consumers i).Pending++ms)
theorem SetsI.same {H K:Int→List Power→Prop} {w w':Wld} {i:Int} (hk:∀ n s,(zb w.consumers i).Id≤n→H n s→K n s) (h:SetsI H w i) (e1:(zc w'.p.Links i).Out.Said=(zc w.p.Links i).Out.Said) (e2:(zc w'.p.Links i).Out.Got=(zc w.p.Links i).Out.Got) (e3:(zc w'.p.Links i).Told=(zc w.p.Links i).Told)
  (e4:(zb w'.consumers i).Id=(zb w.consumers i).Id) (e5:(zb w'.consumers i).Pending=(zb w.consumers i).Pending) (e6:(zb w'.consumers i).Set=(zb w.consumers i).Set) (e7:w.p.Height≤w'.p.Height):SetsI K w' i:=by
 obtain ⟨ms,h1,h2⟩:=h
 exact ⟨ms,h1.same e1 e2 e3 e4 e5 e6 e7,by rw[e4,e5,e6];exact h2.mono hk (Int.le_refl _) h1.rise⟩
theorem SetsI.cons {H K:Int→List Power→Prop} {w w':Wld} {i j:Int} {c:Consumer} (hk:∀ n s,(zb w.consumers i).Id≤n→H n s→K n s) (hj:0≤j∧j < 2) (hi:0≤i∧i < 2) (h:SetsI H w i) (hl:(zc w'.p.Links i).Out.Said=(zc w.p.Links i).Out.Said∧(zc w'.p.Links i).Out.Got=(zc w.p.Links i).Out.Got∧(zc w'.p.Links i).Told=(zc w.p.Links i).Told)
  (hc:w'.consumers=zkf w.consumers j c) (h1:c.Id=(zb w.consumers j).Id) (h2:c.Pending=(zb w.consumers j).Pending) (h3:c.Set=(zb w.consumers j).Set) (hH:w.p.Height≤w'.p.Height):SetsI K w' i:=by
 have e:=zqe (C:=w.consumers) hj hi c
 refine h.same hk hl.1 hl.2.1 hl.2.2 ?_ ?_ ?_ hH
 all_goals
  rw[hc,e]
  split
  ·rename_i k;rw[k];assumption
  ·rfl
def behW (v g:Int):List Wait→Int
 | []=>0
 | w::l=>(if w.V=v∧g < w.Height then w.Amount else 0)+behW v g l
def behS (s:Stake) (v g:Int):Int:=s.Validators.Tokens.get v+s.Validators.Lost.get v+behW v g s.Waits
def MoreB (s t:Stake) (g:Int):Prop:=∀ v:Int,0≤v∧v < 6→behS s v g≤behS t v g
theorem MoreB.refl (s:Stake) (g:Int):MoreB s s g:=fun _ _=>Int.le_refl _
theorem MoreB.trans {a b c:Stake} {g:Int} (h:MoreB a b g) (k:MoreB b c g):MoreB a c g:=fun v hv=>Int.le_trans (h v hv) (k v hv)
theorem MoreB.of {s t:Stake} {g:Int} (h1:t.Validators.Tokens=s.Validators.Tokens) (h2:t.Validators.Lost=s.Validators.Lost) (h3:∀ v,behW v g t.Waits=behW v g s.Waits):MoreB s t g:=fun v _=>by
 unfold behS;rw[h1,h2,h3];exact Int.le_refl _
def KeepK (i m:Int) (W W':List Wait):Prop:=∀ x,x∈W'→∃ y,y∈W∧x.Height=y.Height∧(m < hN y i→hN x i=hN y i)
theorem KeepK.refl (i m:Int) (W:List Wait):KeepK i m W W:=fun x hx=>⟨x,hx,rfl,fun _=>rfl⟩
theorem KeepK.trans {i m:Int} {A B C:List Wait} (h:KeepK i m A B) (k:KeepK i m B C):KeepK i m A C:=fun x hx=>by
 obtain ⟨y,hy,e1,e2⟩:=k x hx
 obtain ⟨z,hz,e3,e4⟩:=h y hy
 exact ⟨z,hz,e1.trans e3,fun hm=>by have:=e4 hm;rw[e2 (by omega),this]⟩
theorem KeepK.map {i m:Int} {W:List Wait} {f:Wait→Wait} (hf:∀ x,(f x).Height=x.Height∧(m < hN x i→hN (f x) i=hN x i)):KeepK i m W (W.map f):=fun x hx=>by
 obtain ⟨y,hy,rfl⟩:=List.mem_map.1 hx
 exact ⟨y,hy,(hf y).1,(hf y).2⟩
structure BackI (w:Wld) (i:Int):Prop where
 held:∀ x,x∈w.p.Stake.Waits→(zb w.consumers i).Id < x.Height→hN x i=x.Height
 queue:∀ a,a∈w.p.Queue→a.C=i→a.P.Kind=2→a.P.Id≤(zb w.consumers i).Id
 said:∀ q,zca q=0→q.Kind=2→pkT q∈(zb w.consumers i).Out.Said→q.Id≤(zb w.consumers i).Id
 ripes:∀ r,r∈(zb w.consumers i).Ripes→r.Id≤(zb w.consumers i).Id
theorem BackI.mono {w w':Wld} {i:Int} (h:BackI w i) (hI:(zb w.consumers i).Id≤(zb w'.consumers i).Id) (hW:∀ x,x∈w'.p.Stake.Waits→(∃ y,y∈w.p.Stake.Waits∧x.Height=y.Height∧((zb w.consumers i).Id < hN y i→hN x i=hN y i))∨hN x i=x.Height)
  (hQ:∀ a,a∈w'.p.Queue→a.C=i→a.P.Kind=2→a∈w.p.Queue∨a.P.Id≤(zb w'.consumers i).Id)
  (hS:∀ q,zca q=0→q.Kind=2→pkT q∈(zb w'.consumers i).Out.Said→pkT q∈(zb w.consumers i).Out.Said∨q.Id≤(zb w'.consumers i).Id)
  (hR:∀ r,r∈(zb w'.consumers i).Ripes→r∈(zb w.consumers i).Ripes∨r.Id≤(zb w'.consumers i).Id):BackI w' i:=by
 obtain ⟨a1,a2,a3,a4⟩:=h
 refine ⟨fun x hx hlt=>?_,fun a ha hc hk=>?_,fun q hg hk hq=>?_,fun r hr=>?_⟩
 ·rcases hW x hx with ⟨y,hy,e1,e2⟩ | e
  ·have e3:=a1 y hy (by omega)
   rw[e2 (by omega),e3,e1]
  ·exact e
 ·rcases hQ a ha hc hk with z | z
  ·have:=a2 a z hc hk;omega
  ·exact z
 ·rcases hS q hg hk hq with z | z
  ·have:=a3 q hg hk z;omega
  ·exact z
 ·rcases hR r hr with z | z
  ·have:=a4 r z;omega
  ·exact z
theorem BackI.other {w w':Wld} {i:Int} (h:BackI w i) (hc:zb w'.consumers i=zb w.consumers i) (hW:∀ x,x∈w'.p.Stake.Waits→(∃ y,y∈w.p.Stake.Waits∧x.Height=y.Height∧((zb w.consumers i).Id < hN y i→hN x i=hN y i))∨hN x i=x.Height)
  (hQ:∀ a,a∈w'.p.Queue→a.C=i→a∈w.p.Queue):BackI w' i :=
 h.mono (by rw[hc];exact Int.le_refl _) hW (fun a ha hc _=>.inl (hQ a ha hc)) (fun q _ _ hq=>by rw[hc] at hq;exact .inl hq) (fun r hr=>by rw[hc] at hr;exact .inl hr)
theorem zaus (v h f:Int) (x:Wait) (i:Int):hN (slW v h f x) i=hN x i:=by unfold slW;split<;>rfl
theorem z88 (s:Stake) (v h f:Int):∃ g:Wait→Wait,(zex s v h f).1.Waits=s.Waits.map g∧∀ x,(g x).Number=x.Number∧(g x).Due=x.Due∧∀ i,hN (g x) i=hN x i:=by
 unfold zex
 split
 ·exact ⟨id,(List.map_id _).symm,fun x=>⟨rfl,rfl,fun _=>rfl⟩⟩
 ·split
  ·exact ⟨id,(List.map_id _).symm,fun x=>⟨rfl,rfl,fun _=>rfl⟩⟩
  ·exact ⟨slW v h f,rfl,fun x=>⟨by unfold slW;split<;>rfl,by unfold slW;split<;>rfl,zaus v h f x⟩⟩
theorem zac9 (p:za) (a:Asked):∃ g:Wait→Wait,(ztg p a).1.Stake.Waits=p.Stake.Waits.map g∧∀ x,(g x).Number=x.Number∧(g x).Due=x.Due∧∀ i:Int,0≤i∧i < 2→hN (g x) i=hN x i∨(a.C=i∧a.P.Kind=2∧hN x i≤a.P.Id):=by
 have idc:∀ q:za,q.Stake.Waits=p.Stake.Waits→∃ g:Wait→Wait,q.Stake.Waits=p.Stake.Waits.map g∧∀ x,(g x).Number=x.Number∧(g x).Due=x.Due∧∀ i:Int,0≤i∧i < 2→hN (g x) i=hN x i∨(a.C=i∧a.P.Kind=2∧hN x i≤a.P.Id) :=
  fun q hq=>⟨id,by rw[hq,List.map_id],fun x=>⟨rfl,rfl,fun _ _=>.inl rfl⟩⟩
 unfold ztg
 split
 ·rename_i k2
  refine ⟨z59 a.C a.P.Id,rfl,fun x=>⟨rfl,rfl,fun i hi=>?_⟩⟩
  rw[z4g hi]
  split
  ·rename_i z;exact .inr ⟨z.1,k2,z.2⟩
  ·exact .inl rfl
 ·split
  ·split
   ·exact idc _ rfl
   ·obtain ⟨g,h1,h2⟩:=z88 p.Stake a.P.V (zapm p a) 50
    exact ⟨g,(zgj _ _ _).trans h1,fun x=>⟨(h2 x).1,(h2 x).2.1,fun i _=>.inl ((h2 x).2.2 i)⟩⟩
  ·split
   ·exact idc _ rfl
   ·split
    ·exact idc _ (zgj _ _ _)
    ·exact idc _ rfl
theorem zalj (t:za×A2 Bool×List Asked) (a:Asked):∃ g:Wait→Wait,(zgu t a).1.Stake.Waits=t.1.Stake.Waits.map g∧∀ x,(g x).Number=x.Number∧(g x).Due=x.Due∧∀ i:Int,0≤i∧i < 2→hN (g x) i=hN x i∨(a.C=i∧a.P.Kind=2∧hN x i≤a.P.Id):=by
 unfold zgu
 split
 ·exact ⟨id,(List.map_id _).symm,fun x=>⟨rfl,rfl,fun _ _=>.inl rfl⟩⟩
 ·split
  ·exact zac9 t.1 a
  ·exact zac9 t.1 a
theorem z89:∀ (l:List Asked) (t:za×A2 Bool×List Asked),∃ g:Wait→Wait,(l.foldl zgu t).1.Stake.Waits=t.1.Stake.Waits.map g∧∀ x,(g x).Number=x.Number∧(g x).Due=x.Due ∧
  ∀ i:Int,0≤i∧i < 2→hN (g x) i=hN x i∨∃ a,a∈l∧a.C=i∧a.P.Kind=2∧hN x i≤a.P.Id
 | [],t=>⟨id,(List.map_id _).symm,fun x=>⟨rfl,rfl,fun _ _=>.inl rfl⟩⟩
 | a::l,t=>by
  obtain ⟨g1,h1,h2⟩:=zalj t a
  obtain ⟨g2,k1,k2⟩:=z89 l (zgu t a)
  refine ⟨g2 ∘ g1,by rw[List.foldl_cons,k1,h1,List.map_map],fun x=>⟨(k2 _).1.trans (h2 x).1,(k2 _).2.1.trans (h2 x).2.1,fun i hi=>?_⟩⟩
  show hN (g2 (g1 x)) i=_∨_
  rcases (h2 x).2.2 i hi with e | ⟨e1,e2,e3⟩
  ·rcases (k2 (g1 x)).2.2 i hi with f | ⟨b,f0,f1,f2,f3⟩
   ·exact .inl (f.trans e)
   ·exact .inr ⟨b,List.mem_cons_of_mem _ f0,f1,f2,by rw[← e];exact f3⟩
  ·exact .inr ⟨a,List.mem_cons_self ..,e1,e2,e3⟩
theorem z4k:∀ (l:List Asked) (t:za×A2 Bool×List Asked),∀ b,b∈(l.foldl zgu t).2.2→b∈t.2.2∨b∈l
 | [],t,b,h=>.inl h
 | a::l,t,b,h=>by
  have one:∀ b,b∈(zgu t a).2.2→b∈t.2.2∨b=a:=by
   intro b hb
   unfold zgu at hb
   split at hb
   ·rcases List.mem_append.1 hb with h | h
    ·exact .inl h
    ·exact .inr (List.mem_singleton.1 h)
   ·split at hb
    ·exact .inl hb
    ·rcases List.mem_append.1 hb with h | h
     ·exact .inl h
     ·exact .inr (List.mem_singleton.1 h)
  rcases z4k l (zgu t a) b h with h | h
  ·rcases one b h with h | h
   ·exact .inl h
   ·exact .inr (h ▸ List.mem_cons_self ..)
  ·exact .inr (List.mem_cons_of_mem _ h)
def RelH (r:A2 Int) (w':Wld) (x x':Wait):Prop:=x.Number=x'.Number∧x.Due=x'.Due∧∀ c:Int,0≤c∧c < 2→hN x' c=hN x c∨hN x c≤r.get c∨w'.p.Links.Gone.get c=true
theorem RelH.refl (r:A2 Int) (w':Wld) (x:Wait):RelH r w' x x:=⟨rfl,rfl,fun _ _=>.inl rfl⟩
structure StepH (r:A2 Int) (w w':Wld) (k:Int):Prop where
 gone:∀ c:Int,0≤c∧c < 2→w.p.Links.Gone.get c=true→w'.p.Links.Gone.get c=true
 new:∀ x',x'∈w'.p.Stake.Waits→(∀ x,x∈w.p.Stake.Waits→x.Number≠x'.Number)∨∃ x,x∈w.p.Stake.Waits∧RelH r w' x x'
 old:∀ x,x∈w.p.Stake.Waits→(∃ x',x'∈w'.p.Stake.Waits∧x'.Number=x.Number)∨(k=6∧x.Due≤w'.p.Time∧∀ c:Int,0≤c∧c < 2→hN x c≤r.get c)
 ask:∀ a,a∈w'.p.Queue→a∈w.p.Queue∨((0≤a.C∧a.C < 2)∧zca a.P=0∧∃ n:Nat,(n:Int) < (zb w'.consumers a.C).Out.Got∧n < (zb w'.consumers a.C).Out.Said.length∧(zb w'.consumers a.C).Out.Said.getD n .empty=txt (zl3 a.P))
theorem StepH.map {r:A2 Int} {w w':Wld} {k:Int} {f:Wait→Wait} (hW:w'.p.Stake.Waits=w.p.Stake.Waits.map f) (hf:∀ x,x∈w.p.Stake.Waits→RelH r w' x (f x))
  (hg:∀ c:Int,0≤c∧c < 2→w.p.Links.Gone.get c=true→w'.p.Links.Gone.get c=true) (hQ:∀ a,a∈w'.p.Queue→a∈w.p.Queue):StepH r w w' k:=by
 refine ⟨hg,fun x' hx=>?_,fun x hx=>.inl ⟨f x,by rw[hW];exact List.mem_map_of_mem hx,(hf x hx).1.symm⟩,fun a ha=>.inl (hQ a ha)⟩
 rw[hW] at hx
 obtain ⟨x,h1,rfl⟩:=List.mem_map.1 hx
 exact .inr ⟨x,h1,hf x h1⟩
theorem StepH.same {r:A2 Int} {w w':Wld} {k:Int} (hW:w'.p.Stake.Waits=w.p.Stake.Waits) (hg:∀ c:Int,0≤c∧c < 2→w.p.Links.Gone.get c=true→w'.p.Links.Gone.get c=true) (hQ:∀ a,a∈w'.p.Queue→a∈w.p.Queue):StepH r w w' k :=
 .map (f:=id) (by rw[hW,List.map_id]) (fun x _=>.refl r w' x) hg hQ
theorem zae8 {w:Wld} (h:OkW w) {r:A2 Int} (hask:∀ a,a∈w.p.Queue→a.P.Kind=2→a.P.Id≤r.get a.C) (hpos:∀ c:Int,0≤c∧c < 2→0≤r.get c):StepH r w (zlh w) 6:=by
 have hg:zag w.p=true∧w.p.Time≤w.clock∧w.clock≤1099511627776:=⟨h.pr,h.pt,by have:=h.t1;omega⟩
 obtain ⟨r1,r2,r3,r4,r5,r6⟩:=zxo hg
 obtain ⟨g,h1,h2⟩:=z89 w.p.Queue (zor w.p w.clock,⟨false,false⟩,[])
 have eT:(zlh w).p.Time=w.clock:=r2
 have eQ:(zlh w).p.Queue=(zc0 w.p w.clock).2.2:=r5
 have h1:(zc0 w.p w.clock).1.Stake.Waits=w.p.Stake.Waits.map g:=h1
 have eW:(zlh w).p.Stake.Waits=(w.p.Stake.Waits.map g).filter (fun x => !z27 w.clock x):=by rw[← h1];exact z86 hg
 have held:∀ x,∀ c:Int,0≤c∧c < 2→hN (g x) c=hN x c∨hN x c≤r.get c:=by
  intro x c hc
  rcases (h2 x).2.2 c hc with e | ⟨a,k1,k2,k3,k4⟩
  ·exact .inl e
  ·have:=hask a k1 k3
   rw[k2] at this
   exact .inr (by omega)
 refine ⟨fun c _ hx=>by rw[show (zlh w).p.Links.Gone=w.p.Links.Gone by exact r6.2.1 |> fun e=>by first | exact e | exact r6.2.2.1];exact hx,fun x' hx=>?_,fun x hx=>?_,fun a ha=>?_⟩
 ·rw[eW] at hx
  obtain ⟨x,k1,rfl⟩:=List.mem_map.1 (List.mem_filter.1 hx).1
  refine .inr ⟨x,k1,(h2 x).1.symm,(h2 x).2.1.symm,fun c hc=>?_⟩
  rcases held x c hc with e | e
  ·exact .inl e
  ·exact .inr (.inl e)
 ·by_cases k:z27 w.clock (g x)=true
  ·right
   unfold z27 at k
   simp only[yy7,decide_eq_true_eq,beq_iff_eq] at k
   refine ⟨rfl,by rw[eT,← (h2 x).2.1];exact k.1.1,fun c hc=>?_⟩
   have hz:hN (g x) c=0:=by
    rcases (show c=0∨c=1 by omega) with rfl | rfl
    ·exact k.1.2
    ·exact k.2
   have:=hpos c hc
   rcases held x c hc with e | e
   ·omega
   ·exact e
  ·refine .inl ⟨g x,?_,(h2 x).1⟩
   rw[eW]
   exact List.mem_filter.2 ⟨List.mem_map_of_mem hx,by simpa using k⟩
 ·rw[eQ] at ha
  rcases z4k _ _ a ha with h | h
  ·cases h
  ·exact .inl h
theorem zain {w:Wld} (h:OkW w) (hd:w.deeds < 600) (hh:HoldW w) {r:A2 Int} (hask:∀ a,a∈w.p.Queue→a.P.Kind=2→a.P.Id≤r.get a.C) (hpos:∀ c:Int,0≤c∧c < 2→0≤r.get c) (d:Deed):StepH r w (doW w d).1 d.Kind:=by
 have hG:∀ c:Int,0≤c∧c < 2→w.p.Links.Gone.get c=true→w.p.Links.Gone.get c=true:=fun _ _ h=>h
 refine z6n h hd d (P:=fun w' _=>StepH r w w' d.Kind) ?_ ?_ ?_ ?_ ?_ ?_ ?_ ?_ ?_ ?_ ?_ ?_ ?_ ?_ ?_
 ·intro w' r' a _
  exact .same (by rw[a.p]) (by rw[a.p];exact hG) (by rw[a.p];exact fun _ h=>h)
 ·intro _ _;exact .same (zut _ _ _ _) hG (fun _ h=>h)
 ·intro _ k0
  obtain ⟨_,_,_,_,_,_,_,_,_,e⟩:=zrl k0
  rw[e]
  refine ⟨hG,fun x' hx=>?_,fun x hx=>.inl ⟨x,List.mem_append_left _ hx,rfl⟩,fun a ha=>.inl ha⟩
  have hx:x'∈w.p.Stake.Waits++[_]:=hx
  rcases List.mem_append.1 hx with hx | hx
  ·exact .inr ⟨x',hx,.refl _ _ _⟩
  ·have hx:=List.mem_singleton.1 hx
   subst hx
   refine .inl fun x hx e=>?_
   have:=(ztt h.p.1.2.2.2.1 hx).2.1
   have e:x.Number=w.p.Stake.Next:=e
   omega
 ·intro _ _;exact .same (zgj _ _ _) hG (fun _ h=>h)
 ·intro _ _ _ _
  obtain ⟨g,h1,h2⟩:=z88 w.p.Stake d.V d.N 50
  exact .map (f:=g) ((zgj _ _ _).trans h1) (fun x _=>⟨(h2 x).1.symm,(h2 x).2.1.symm,fun c _=>.inl ((h2 x).2.2 c)⟩) hG (fun _ h=>h)
 ·intro _ _ _;exact .same rfl hG (fun _ h=>h)
 ·intro k6;rw[k6];exact zae8 h hask hpos
 ·intro _ hi hg ho _ _
  refine .map (f:=zdc d.C w.p.Height) rfl (fun x hx=>⟨by unfold zdc;split<;>rfl,by unfold zdc;split<;>rfl,fun c hc=>?_⟩) (fun c hc hx=>?_) (fun _ h=>h)
  ·rw[z6p hc]
   split
   ·rename_i z
    refine .inr (.inl ?_)
    have:=hpos c hc
    rcases Int.lt_or_le 0 (hN x c) with k | k
    ·have:=((hh x hx).hold c hc k).1
     rw[(h.c c hc).on,← z.2,ho] at this
     cases this
    ·omega
   ·exact .inl rfl
  ·show (w.p.Links.Gone.set d.C false).get c=true
   rw[zx _ _ hi hc]
   split
   ·rename_i z;rw[z,hg] at hx;cases hx
   ·exact hx
 ·intro _ _ _;exact .same rfl hG (fun _ h=>h)
 ·intro _ _ _ _;exact .same rfl hG (fun _ h=>h)
 ·intro _ _ _ _;exact .same rfl hG (fun _ h=>h)
 ·intro q _ hi ho _ hcm _
  have k:=StepH.same (r:=r) (w:=w) (w':=w) (k:=d.Kind) rfl hG (fun _ h=>h)
  refine ⟨k.gone,k.new,k.old,fun a ha=>?_⟩
  have ha:a∈w.p.Queue++[⟨d.C,q⟩]:=ha
  rcases List.mem_append.1 ha with ha | ha
  ·exact .inl ha
  ·have ha:=List.mem_singleton.1 ha
   subst ha
   obtain ⟨g1,g2,g3,g4,g5,g6,g7⟩:=hcm
   have ec:zb (gotB w d.C q).consumers d.C={ zb w.consumers d.C with Out:={ (zb w.consumers d.C).Out with Got:=(zb w.consumers d.C).Out.Got+1 } }:=zcx hi _
   refine .inr ⟨hi,g7,(zb w.consumers d.C).Out.Got.toNat,?_,?_,?_⟩
   ·show _ < (zb (gotB w d.C q).consumers d.C).Out.Got
    rw[ec]
    have:0≤(zb w.consumers d.C).Out.Got:=g1.2.2.1
    show ((zb w.consumers d.C).Out.Got.toNat:Int) < (zb w.consumers d.C).Out.Got+1
    omega
   ·show _ < (zb (gotB w d.C q).consumers d.C).Out.Said.length
    rw[ec];exact g3
   ·show (zb (gotB w d.C q).consumers d.C).Out.Said.getD _ _=_
    rw[ec];exact g5
 ·intro q _ _ _ _ _ _;exact .same rfl hG (fun _ h=>h)
 ·intro _ hi ho _
  refine .map (f:=z59 d.C 1099511627776) rfl (fun x _=>⟨rfl,rfl,fun c hc=>?_⟩) (fun c hc hx=>?_) (fun a ha=>(List.mem_filter.1 ha).1)
  ·rw[z4g hc]
   split
   ·rename_i z
    refine .inr (.inr ?_)
    show (w.p.Links.Gone.set d.C true).get c=true
    rw[zx _ _ hi hc,if_pos z.1.symm]
   ·exact .inl rfl
  ·show (w.p.Links.Gone.set d.C true).get c=true
   rw[zx _ _ hi hc]
   split
   ·rfl
   ·exact hx
 ·intro q f _ _ _ _ _ _ _;exact .same rfl hG (fun _ h=>h)
theorem ztz {α:Type} (n:Int):∀ l:List (Int×α),zzx l n=true↔∃ p,p∈l∧p.1=n
 | []=>by simp[zzx]
 | p::l=>by
  simp only[zzx,List.mem_cons]
  by_cases e:n=p.1
  ·rw[if_pos e];exact ⟨fun _=>⟨p,.inl rfl,e.symm⟩,fun _=>rfl⟩
  ·rw[if_neg e,ztz n l]
   exact ⟨fun ⟨q,h1,h2⟩=>⟨q,.inr h1,h2⟩,fun ⟨q,h1,h2⟩=>by
    rcases h1 with rfl | h1
    ·exact absurd h2.symm e
    ·exact ⟨q,h1,h2⟩⟩
theorem z6q {α:Type} {n:Int} {x:α}:∀ {l:List (Int×α)},zzx l n=false→z2e n x l=l++[(n,x)]
 | [],_=>rfl
 | p::l,h=>by
  simp only[zzx] at h
  split at h
  ·cases h
  ·rename_i e
   simp only[z2e,if_neg e,z6q h,List.cons_append]
theorem z9a (n:Int) (m:Int):∀ l:List (Int×Bool),zt3 false (z2e n true l) m=if m=n then true else zt3 false l m
 | []=>by simp[z2e,zt3]
 | p::l=>by
  simp only[z2e]
  by_cases e:n=p.1
  ·rw[if_pos e]
   simp only[zt3,← e]
   by_cases k:m=n
   ·rw[if_pos k,if_pos k]
   ·rw[if_neg k,if_neg k,if_neg k]
  ·rw[if_neg e]
   simp only[zt3]
   by_cases k:m=p.1
   ·rw[if_pos k,if_pos k,if_neg (fun z=>e (z.symm.trans k))]
   ·rw[if_neg k,if_neg k,z9a n m l]
theorem zap3 {σ:Type} {f:Value→Int→Wait→Option ((Int×Value×σ)⊕(Value×σ))} {v:σ} {l:List (Int×Wait)} {q:Int×Wait→Bool}
  (h:∀ p,p∈l→(q p=true∧∀ it,f it p.1 p.2=some (.inr (it,v)))∨(q p=false∧∀ it,f it p.1 p.2=some (.inl (p.1,it,v)))):mapF f v l=some (l.filter q):=by
 classical
 unfold mapF
 rw[if_pos (fun p hp=>(h p hp).elim (fun k=>.inr k.2) (fun k=>.inl k.2))]
 congr 1
 refine List.filter_congr fun p hp=>?_
 rcases h p hp with ⟨k1,k2⟩ | ⟨k1,k2⟩
 ·rw[k1,Bool.not_eq_true',yy8]
  intro k
  have h1:=k undef
  rw[k2 undef] at h1
  cases h1
 ·rw[k1,Bool.not_eq_false',decide_eq_true_eq]
  exact k2
structure zalk (w:Wld) (g:A2 Bool) (r:A2 Int) (m:List (Int×Wait)):Prop where
 gone:∀ c:Int,0≤c∧c < 2→w.p.Links.Gone.get c=true→g.get c=true
 ask:∀ a,a∈w.p.Queue→a.P.Kind=2→a.P.Id≤r.get a.C
 pos:∀ c:Int,0≤c∧c < 2→0≤r.get c
 keys:(m.map (·.1)).Nodup
 back:∀ p,p∈m→∃ x,x∈w.p.Stake.Waits∧x.Number=p.1
 hold:∀ x,x∈w.p.Stake.Waits→∃ y,(x.Number,y)∈m∧y.Due=x.Due∧∀ c:Int,0≤c∧c < 2→hN y c≤r.get c∨g.get c=true∨hN x c=hN y c
theorem zall:zalk newW ⟨false,false⟩ ⟨0,0⟩ []:=by
 refine ⟨fun c hc hx=>?_,fun a ha=>(by cases ha),fun c hc=>?_,List.Pairwise.nil,fun p hp=>(by cases hp),fun x hx=>(by cases hx)⟩
 ·rcases (show c=0∨c=1 by omega) with rfl | rfl<;>cases hx
 ·rcases (show c=0∨c=1 by omega) with rfl | rfl<;>exact Int.le_refl 0
def LeR (r r':A2 Int):Prop:=∀ c:Int,0≤c∧c < 2→r.get c≤r'.get c
theorem LeR.trans {a b c:A2 Int} (h:LeR a b) (k:LeR b c):LeR a c:=fun i hi=>Int.le_trans (h i hi) (k i hi)
theorem zaio {i:Int} (hi:0≤i∧i < 2) {L:Links} {n:Int} {w:Wld} {g:A2 Bool} {m:List (Int×Wait)} {d:Deed} {p:za} {o:zgz} (hs:∀ s,s∈o.Said→PkB s) (hl:o.Said.length≤4000) (r:A2 Int) :
  ∃ r',zib i 0 L n w g r m d p o=some (L,n,w,g,r',m,d,p)∧LeR r r'∧∀ j:Nat,(j:Int) < o.Got→j < o.Said.length→∀ q,zca q=0→o.Said.getD j .empty=txt (zl3 q)→q.Kind=2→q.Id≤r'.get i:=by
 rw[zib]
 have:=zxq (F:=fun s:Int×Int×Links×Int×Wld×(A2 Bool)×(A2 Int)×(List (Int×Wait))×Deed×za×zgz=>(zcr s.1 s.2.1 s.2.2.1 s.2.2.2.1 s.2.2.2.2.1 s.2.2.2.2.2.1 s.2.2.2.2.2.2.1 s.2.2.2.2.2.2.2.1 s.2.2.2.2.2.2.2.2.1 s.2.2.2.2.2.2.2.2.2.1 s.2.2.2.2.2.2.2.2.2.2).run) (min o.Got.toNat o.Said.length) (fun k (r':A2 Int)=>(i,(k:Int),L,n,w,g,r',m,d,p,o))
  (fun k r'=>LeR r r'∧∀ j:Nat,j < k→∀ q,zca q=0→o.Said.getD j .empty=txt (zl3 q)→q.Kind=2→q.Id≤r'.get i) (fun r'=>(L,n,w,g,r',m,d,p)) ?_ ?_ (t:=r) ⟨fun _ _=>Int.le_refl _,fun j hj=>absurd hj (Nat.not_lt_zero j)⟩
 ·obtain ⟨r',h1,h2,h3⟩:=this
  exact ⟨r',h1,h2,fun j k1 k2=>h3 j (by omega)⟩
 ·rintro r' ⟨h1,h2⟩
  simp only[zcr]
  rw[Tr.rf (by rw[Bool.and_eq_false_iff,yy8,yy8];omega),Tr.rl]
 ·rintro k r' hk ⟨h1,h2⟩
  have hm:=zdg (l:=o.Said) (k:=k) (by omega) .empty
  obtain ⟨q,q1,q2,q3⟩:=hs _ hm
  obtain ⟨g1,g2⟩:=zxn q1
  have hdec:zcd (o.Said.getD k .empty)=some (q,0):=by
   rw[q3,z1m (by rw[zri];omega),zvw q1]
  have same:∀ q',zca q'=0→o.Said.getD k .empty=txt (zl3 q')→q'=q:=by
   intro q' k1 k2
   have e:zl3 q'=zl3 q:=by
    have:=congrArg (fun s:ByteArray=>s.data.toList) (k2.symm.trans q3)
    simpa[ztp] using this
   have:=zvw k1
   rw[e,zvw q1] at this
   exact (Prod.mk.inj this).1.symm
  by_cases k2:q.Kind=2
  ·refine ⟨r'.set i (if q.Id > r'.get i then q.Id else r'.get i),?_,fun c hc=>?_,fun j hj q' j1 j2 j3=>?_⟩
   ·simp only[zcr,yy4]
    rw[Tr.rt (by rw[yy7,decide_eq_true_eq,decide_eq_true_eq];omega),Tr.rg ⟨by omega,by show (k:Int) < ((o.Said.length:Nat):Int);omega⟩,Tr.rb hdec,Tr.rt (by simp[k2]),Tr.rg hi,Tr.rg hi,Tr.rl,zv (by omega)]
   ·rw[zx _ _ hi hc]
    have:=h1 c hc
    split
    ·rename_i z;subst z;split<;>omega
    ·exact this
   ·rw[zx _ _ hi hi,if_pos rfl]
    by_cases e:j=k
    ·subst e
     rw[same q' j1 j2]
     split<;>omega
    ·have:=h2 j (by omega) q' j1 j2 j3
     split<;>omega
  ·refine ⟨r',?_,h1,fun j hj q' j1 j2 j3=>?_⟩
   ·simp only[zcr,yy4]
    rw[Tr.rt (by rw[yy7,decide_eq_true_eq,decide_eq_true_eq];omega),Tr.rg ⟨by omega,by show (k:Int) < ((o.Said.length:Nat):Int);omega⟩,Tr.rb hdec,Tr.rf (by simp[k2]),Tr.rl,zv (by omega)]
   ·by_cases e:j=k
    ·subst e
     rw[same q' j1 j2] at j3
     exact absurd j3 k2
    ·exact h2 j (by omega) q' j1 j2 j3
def z6r (w:Wld) (g:A2 Bool):A2 Bool:=⟨g.x0||w.p.Links.Gone.x0,g.x1||w.p.Links.Gone.x1⟩
theorem zap4 {w:Wld} (h:OkW w) {g:A2 Bool} {r:A2 Int} {m:List (Int×Wait)} {d:Deed} :
  ∃ r',zic w.p.Links 0 w g r m d w.p=some (w,z6r w g,r',m,d,w.p)∧LeR r r'∧∀ c:Int,0≤c∧c < 2→∀ j:Nat,(j:Int) < (zb w.consumers c).Out.Got→j < (zb w.consumers c).Out.Said.length →
   ∀ q,zca q=0→(zb w.consumers c).Out.Said.getD j .empty=txt (zl3 q)→q.Kind=2→q.Id≤r'.get c:=by
 have lens:∀ i:Int,0≤i∧i < 2→(zb w.consumers i).Out.Said.length≤4000:=fun i hi=>by
  have:(zb w.consumers i).Out.Said.length≤400:=(zbq (h.c i hi).good).2.1.2.1
  omega
 have h0:(0:Int)≤0∧(0:Int) < 2:=by omega
 have h1:(0:Int)≤1∧(1:Int) < 2:=by omega
 obtain ⟨r0,a1,a2,a3⟩:=zaio h0 (L:=w.p.Links) (n:=0) (w:=w) (g:=g.set 0 ((g.get 0)||(w.p.Links.Gone.get 0))) (m:=m) (d:=d) (p:=w.p) (o:=(zb w.consumers 0).Out) (h.c 0 h0).said (lens 0 h0) r
 obtain ⟨r1,b1,b2,b3⟩:=zaio h1 (L:=w.p.Links) (n:=1) (w:=w) (g:=(g.set 0 ((g.get 0)||(w.p.Links.Gone.get 0))).set 1 (((g.set 0 ((g.get 0)||(w.p.Links.Gone.get 0))).get 1)||(w.p.Links.Gone.get 1))) (m:=m) (d:=d) (p:=w.p) (o:=(zb w.consumers 1).Out) (h.c 1 h1).said (lens 1 h1) r0
 refine ⟨r1,?_,a2.trans b2,fun c hc=>?_⟩
 ·rw[zic]
  rw[zcj (s':=(w.p.Links,1,w,g.set 0 ((g.get 0)||(w.p.Links.Gone.get 0)),r0,m,d,w.p)) (by
   show (za3 w.p.Links 0 w g r m d w.p).run=_
   simp only[za3]
   rw[Tr.rt (by rfl),Tr.rg h0,Tr.rg h0,Tr.rg h0,Tr.rb (zabg h h0),Tr.rb a1,Tr.rl]
   rfl),zcj (s':=(w.p.Links,2,w,z6r w g,r1,m,d,w.p)) (by
   show (za3 w.p.Links 1 w (g.set 0 ((g.get 0)||(w.p.Links.Gone.get 0))) r0 m d w.p).run=_
   simp only[za3]
   rw[Tr.rt (by rfl),Tr.rg h1,Tr.rg h1,Tr.rg h1,Tr.rb (zabg h h1),Tr.rb b1,Tr.rl]
   rfl)]
  refine zew ?_
  show (za3 w.p.Links 2 w (z6r w g) r1 m d w.p).run=_
  simp only[za3]
  rw[Tr.rf (by rfl),Tr.rl]
 ·rcases (show c=0∨c=1 by omega) with rfl | rfl
  ·exact fun j k1 k2 q k3 k4 k5=>Int.le_trans (a3 j k1 k2 q k3 k4 k5) (b2 0 h0)
  ·exact b3
theorem zap5 {W:List Wait} (hW:W.length≤4000) {w:Wld} {g:A2 Bool} {r:A2 Int} {m:List (Int×Wait)} {d:Deed} {p:za} :
  ∃ F,zid W ((W.length:Nat):Int) 0 w g r m d p []=some (w,g,r,m,d,p,F)∧∀ n,zt3 false F n=true↔∃ x,x∈W∧x.Number=n:=by
 rw[zid]
 have:=zxq (F:=fun s:(List Wait)×Int×Int×Wld×(A2 Bool)×(A2 Int)×(List (Int×Wait))×Deed×za×(List (Int×Bool))=>(zd2 s.1 s.2.1 s.2.2.1 s.2.2.2.1 s.2.2.2.2.1 s.2.2.2.2.2.1 s.2.2.2.2.2.2.1 s.2.2.2.2.2.2.2.1 s.2.2.2.2.2.2.2.2.1 s.2.2.2.2.2.2.2.2.2).run) W.length (fun k (F:List (Int×Bool))=>(W,((W.length:Nat):Int),(k:Int),w,g,r,m,d,p,F))
  (fun k F=>∀ n,zt3 false F n=true↔∃ j:Nat,j < k∧(W.getD j default).Number=n) (fun F=>(w,g,r,m,d,p,F)) ?_ ?_ (t:=[]) (fun n=>by simp[zt3])
 ·obtain ⟨F,h1,h2⟩:=this
  refine ⟨F,h1,fun n=>(h2 n).trans ⟨fun ⟨j,k1,k2⟩=>⟨_,zdg k1 default,k2⟩,fun ⟨x,k1,k2⟩=>?_⟩⟩
  obtain ⟨j,k3,k4⟩:=List.getElem_of_mem k1
  exact ⟨j,k3,by rw[yy0,yy3 k3,k4];exact k2⟩
 ·intro F hF
  simp only[zd2]
  rw[Tr.rf (by simp),Tr.rl]
 ·intro k F hk hF
  refine ⟨z2e (W.getD k default).Number true F,?_,fun n=>?_⟩
  ·simp only[zd2,yy4]
   rw[Tr.rt (by simpa using hk),Tr.rg ⟨by omega,by show (k:Int) < ((W.length:Nat):Int);omega⟩,Tr.rl,zv (by omega)]
  ·rw[z9a]
   by_cases e:n=(W.getD k default).Number
   ·rw[if_pos e];exact ⟨fun _=>⟨k,by omega,e.symm⟩,fun _=>rfl⟩
   ·rw[if_neg e,hF n]
    exact ⟨fun ⟨j,h1,h2⟩=>⟨j,by omega,h2⟩,fun ⟨j,h1,h2⟩=>⟨j,by
     rcases Nat.lt_or_ge j k with h | h
     ·exact h
     ·exact absurd (by rw[← h2,show j=k by omega]) e,h2⟩⟩
theorem zap6 {k:Int} {it:Value} {y:Wait} {w:Wld} {g:A2 Bool} {r:A2 Int} {d:Deed} {p:za} {F:List (Int×Bool)} (hy:∀ c:Int,0≤c∧c < 2→hN y c≤r.get c∨g.get c=true) :
  zie k it ⟨y.h0,y.h1⟩ 0 w g r d p F=some (.inr (k,it,w,g,r,d,p,F)):=by
 have turn:∀ i:Nat,i < 2→(zcs k it ⟨y.h0,y.h1⟩ (i:Int) w g r d p F).run=some (.inl (k,it,⟨y.h0,y.h1⟩,((i+1:Nat):Int),w,g,r,d,p,F)):=by
  intro i hi
  have hi':0≤(i:Int)∧(i:Int) < 2:=by omega
  have eh:(⟨y.h0,y.h1⟩:A2 Int).get (i:Int)=hN y i:=by
   rcases (show i=0∨i=1 by omega) with rfl | rfl<;>rfl
  simp only[zcs]
  rw[Tr.rt (by simp;omega),Tr.rg hi',Tr.rg hi',Tr.rg (fun _=>⟨hi',trivial⟩),Tr.rf (by
   rw[Bool.and_eq_false_iff,yy8,eh]
   rcases hy i hi' with h | h
   ·left;omega
   ·right;rw[h];rfl),Tr.rl,zv (by omega)]
 rw[zie,zcj (s':=(k,it,⟨y.h0,y.h1⟩,((1:Nat):Int),w,g,r,d,p,F)) (turn 0 (by omega)),zcj (s':=(k,it,⟨y.h0,y.h1⟩,((2:Nat):Int),w,g,r,d,p,F)) (turn 1 (by omega))]
 refine zew ?_
 show (zcs k it ⟨y.h0,y.h1⟩ 2 w g r d p F).run=_
 simp only[zcs]
 rw[Tr.rf (by simp),Tr.rl]
theorem zap7 {w:Wld} {g:A2 Bool} {r:A2 Int} {d:Deed} {p:za} {F:List (Int×Bool)} {m:List (Int×Wait)}
  (hm:∀ q,q∈m→zt3 false F q.1=true∨(zt3 false F q.1=false∧q.2.Due≤p.Time∧d.Kind=6∧∀ c:Int,0≤c∧c < 2→hN q.2 c≤r.get c∨g.get c=true)) :
  zif w g r d p F m=some (w,g,r,m.filter (fun q=>zt3 false F q.1),p):=by
 have keep:∀ (q:Int×Wait),zt3 false F q.1=true→∀ it,(zbp it w g r d p F q.1 q.2).run=some (.inr (it,w,g,r,d,p,F)):=by
  intro q hq it
  rw[zbp,Tr.rt hq,Tr.rl]
 have drop:∀ (q:Int×Wait),q∈m→zt3 false F q.1=false→∀ it,(zbp it w g r d p F q.1 q.2).run=some (.inl (q.1,it,w,g,r,d,p,F)):=by
  intro q hq h0 it
  rcases hm q hq with h | ⟨_,h1,h2,h3⟩
  ·rw[h0] at h;cases h
  ·rw[zbp,Tr.rf h0,Tr.rf (by
    rw[Bool.or_eq_false_iff,yy8]
    exact ⟨by omega,by simp[h2]⟩),Tr.rj (zap6 h3),Tr.rl]
 rw[zif,zap3 (q:=fun q=>zt3 false F q.1) (fun q hq=>by
  cases h:zt3 false F q.1 with
  | true=>exact .inl ⟨rfl,keep q h⟩
  | false=>exact .inr ⟨rfl,drop q hq h⟩)]
 rfl
theorem zap8 {n:Int} {W:List Wait} (hW:W.length≤4000) (hg:zf2 n 0 W) {w:Wld} {g:A2 Bool} {r:A2 Int} {m:List (Int×Wait)} (hk:(m.map (·.1)).Nodup) :
  ∃ M,zig W ((W.length:Nat):Int) 0 w g r m=some (w,g,r,M)∧(M.map (·.1)).Nodup∧∀ q,q∈M↔q∈m∨∃ x,x∈W∧q=(x.Number,x)∧zzx m x.Number=false:=by
 rw[zig]
 have:=zxq (F:=fun s:(List Wait)×Int×Int×Wld×(A2 Bool)×(A2 Int)×(List (Int×Wait))=>(zct s.1 s.2.1 s.2.2.1 s.2.2.2.1 s.2.2.2.2.1 s.2.2.2.2.2.1 s.2.2.2.2.2.2).run) W.length (fun k (M:List (Int×Wait))=>(W,((W.length:Nat):Int),(k:Int),w,g,r,M))
  (fun k M=>(M.map (·.1)).Nodup∧∀ q,q∈M↔q∈m∨∃ j:Nat,j < k∧q=((W.getD j default).Number,W.getD j default)∧zzx m (W.getD j default).Number=false) (fun M=>(w,g,r,M)) ?_ ?_ (t:=m) ⟨hk,fun q=>⟨fun h=>.inl h,fun h=>by
   rcases h with h | ⟨j,h,_⟩
   ·exact h
   ·exact absurd h (Nat.not_lt_zero j)⟩⟩
 ·obtain ⟨M,h1,h2,h3⟩:=this
  refine ⟨M,h1,h2,fun q=>(h3 q).trans ⟨fun h=>h.imp id fun ⟨j,k1,k2,k3⟩=>⟨_,zdg k1 default,k2,k3⟩,fun h=>h.imp id fun ⟨x,k1,k2,k3⟩=>?_⟩⟩
  obtain ⟨j,k4,k5⟩:=List.getElem_of_mem k1
  have e:W.getD j default=x:=by rw[yy0,yy3 k4,k5];rfl
  exact ⟨j,k4,by rw[e];exact k2,by rw[e];exact k3⟩
 ·intro M hM
  simp only[zct]
  rw[Tr.rf (by simp),Tr.rl]
 ·rintro k M hk ⟨h1,h2⟩
  have hx:=zdg hk default
  have run0:(k:Int) < ((W.length:Nat):Int):=by omega
  cases h:zzx M (W.getD k default).Number with
  | true =>
   refine ⟨M,?_,h1,fun q=>(h2 q).trans ⟨fun h=>h.imp id fun ⟨j,k1,k2⟩=>⟨j,by omega,k2⟩,fun h'=>?_⟩⟩
   ·simp only[zct,yy4]
    rw[Tr.rt (by simpa using hk),Tr.rg ⟨by omega,run0⟩,Tr.rf (by rw[h];rfl),Tr.rl,zv (by omega)]
   ·rcases h' with h' | ⟨j,k1,k2,k3⟩
    ·exact .inl h'
    ·rcases Nat.lt_or_ge j k with hj | hj
     ·exact .inr ⟨j,hj,k2,k3⟩
     ·have:j=k:=by omega
      subst this
      obtain ⟨p,p1,p2⟩:=(ztz _ _).1 h
      rcases (h2 p).1 p1 with z | ⟨j',z1,z2,z3⟩
      ·rw[← p2] at k3
       have:=(ztz p.1 m).2 ⟨p,z,rfl⟩
       rw[k3] at this;cases this
      ·have hx':=zdg (l:=W) (k:=j') (by omega) default
       have e:W.getD j' default=W.getD j default:=z32 hg hx' hx (by rw[← p2,z2])
       exact .inr ⟨j',z1,by rw[e];exact k2,z3⟩
  | false =>
   have hne:∀ p,p∈M→p.1≠(W.getD k default).Number:=by
    intro p hp e
    have:=(ztz _ _).2 ⟨p,hp,e⟩
    rw[h] at this;cases this
   refine ⟨z2e (W.getD k default).Number (W.getD k default) M,?_,?_,fun q=>?_⟩
   ·simp only[zct,yy4]
    rw[Tr.rt (by simpa using hk),Tr.rg ⟨by omega,run0⟩,Tr.rt (by rw[h];rfl),Tr.rl,zv (by omega)]
   ·rw[z6q h,List.map_append]
    refine List.nodup_append.2 ⟨h1,by simp,fun a ha b hb=>?_⟩
    obtain ⟨p,p1,rfl⟩:=List.mem_map.1 ha
    simp only[List.map_cons,List.map_nil,List.mem_singleton] at hb
    rw[hb];exact hne p p1
   ·rw[z6q h,List.mem_append,h2 q]
    have hm0:zzx m (W.getD k default).Number=false:=by
     cases z:zzx m (W.getD k default).Number with
     | false=>rfl
     | true =>
      obtain ⟨p,p1,p2⟩:=(ztz _ _).1 z
      exact absurd p2 (hne p ((h2 p).2 (.inl p1)))
    constructor
    ·rintro ((z | ⟨j,z1,z2⟩) | z)
     ·exact .inl z
     ·exact .inr ⟨j,by omega,z2⟩
     ·exact .inr ⟨k,by omega,List.mem_singleton.1 z,hm0⟩
    ·rintro (z | ⟨j,z1,z2,z3⟩)
     ·exact .inl (.inl z)
     ·rcases Nat.lt_or_ge j k with hj | hj
      ·exact .inl (.inr ⟨j,hj,z2,z3⟩)
      ·have:j=k:=by omega
       subst this
       exact .inr (List.mem_singleton.2 z2)
theorem zaip {w0 w:Wld} (h:OkW w) (d:Deed) (rep:Reply) {g:A2 Bool} {r:A2 Int} {m:List (Int×Wait)} (hs:StepH r w0 w d.Kind) (hj:zalk w0 g r m) :
  ∃ g' r' m',zah d rep w g r m=some (true,w,g',r',m')∧zalk w g' r' m':=by
 have hlen:w.p.Stake.Waits.length≤4000:=by have:=h.p.1.2.1.2.2;omega
 have hgw:=h.p.1.2.2.2.1
 obtain ⟨r',a1,a2,a3⟩:=zap4 h (g:=g) (r:=r) (m:=m) (d:=d)
 obtain ⟨F,b1,b2⟩:=zap5 hlen (w:=w) (g:=z6r w g) (r:=r') (m:=m) (d:=d) (p:=w.p)
 have gn:∀ c:Int,0≤c∧c < 2→(z6r w g).get c=(g.get c||w.p.Links.Gone.get c):=by
  intro c hc
  rcases (show c=0∨c=1 by omega) with rfl | rfl<;>rfl
 have hm:∀ q,q∈m→zt3 false F q.1=true∨(zt3 false F q.1=false∧q.2.Due≤w.p.Time∧d.Kind=6∧∀ c:Int,0≤c∧c < 2→hN q.2 c≤r'.get c∨(z6r w g).get c=true):=by
  intro q hq
  cases hf:zt3 false F q.1 with
  | true=>exact .inl rfl
  | false =>
   refine .inr ⟨rfl,?_⟩
   obtain ⟨x,x1,x2⟩:=hj.back q hq
   rcases hs.old x x1 with ⟨x',y1,y2⟩ | ⟨k1,k2,k3⟩
   ·have:=(b2 q.1).2 ⟨x',y1,y2.trans x2⟩
    rw[hf] at this;cases this
   ·obtain ⟨y,z1,z2,z3⟩:=hj.hold x x1
    have:(x.Number,y)=q:=zzv hj.keys z1 hq x2
    subst this
    refine ⟨by show y.Due≤_;omega,k1,fun c hc=>?_⟩
    show hN y c≤_∨_
    have hr:=a2 c hc
    rcases z3 c hc with z | z | z
    ·left;omega
    ·right;rw[gn c hc,z];rfl
    ·left;have:=k3 c hc;omega
 have c1:=zap7 (w:=w) (g:=z6r w g) (r:=r') (d:=d) (p:=w.p) (F:=F) hm
 obtain ⟨M,d1,d2,d3⟩:=zap8 hlen hgw (w:=w) (g:=z6r w g) (r:=r') (m:=m.filter (fun q=>zt3 false F q.1)) (hj.keys.sublist (List.filter_sublist.map _))
 refine ⟨z6r w g,r',M,?_,?_⟩
 ·rw[zah,znx,Tr.rb (zapx h)]
  simp only[]
  rw[Tr.rb a1]
  simp only[]
  rw[Tr.rb b1]
  simp only[]
  rw[Tr.rb c1]
  simp only[]
  rw[Tr.rb d1,Tr.rl]
 ·refine ⟨fun c hc hx=>by rw[gn c hc,hx,Bool.or_true],fun a ha k2=>?_,fun c hc=>?_,d2,fun p hp=>?_,fun x' hx=>?_⟩
  ·rcases hs.ask a ha with h1 | ⟨hc,h2,n,h3,h4,h5⟩
   ·have e:=hj.ask a h1 k2
    rcases Int.lt_or_le a.C 0 with z | z
    ·have:=(z11 h.pr a ha).2;omega
    ·have:=a2 a.C (z11 h.pr a ha).2;omega
   ·exact a3 a.C hc n h3 h4 a.P h2 h5 k2
  ·have:=hj.pos c hc;have:=a2 c hc;omega
  ·rcases (d3 p).1 hp with h1 | ⟨x,x1,x2,_⟩
   ·exact (b2 p.1).1 (List.mem_filter.1 h1).2
   ·exact ⟨x,x1,by rw[x2]⟩
  ·rcases hs.new x' hx with h1 | ⟨x,h1,e1,e2,e3⟩
   ·refine ⟨x',(d3 _).2 (.inr ⟨x',hx,rfl,?_⟩),rfl,fun c _=>.inr (.inr rfl)⟩
    cases z:zzx (m.filter (fun q=>zt3 false F q.1)) x'.Number with
    | false=>rfl
    | true =>
     obtain ⟨q,q1,q2⟩:=(ztz _ _).1 z
     obtain ⟨x,x1,x2⟩:=hj.back q (List.mem_filter.1 q1).1
     exact absurd (x2.trans q2) (h1 x x1)
   ·obtain ⟨y,z1,z2,z3⟩:=hj.hold x h1
    refine ⟨y,(d3 _).2 (.inl (List.mem_filter.2 ⟨by rw[← e1];exact z1,(b2 x'.Number).2 ⟨x',hx,rfl⟩⟩)),z2.trans e2,fun c hc=>?_⟩
    have hr:=a2 c hc
    rcases z3 c hc with z | z | z
    ·left;omega
    ·right;left;rw[gn c hc,z];rfl
    ·rcases e3 c hc with k | k | k
     ·right;right;rw[k,z]
     ·left;omega
     ·right;left;rw[gn c hc,k,Bool.or_true]
theorem zae9 {l:List Deed} (hl:zauo l):zkr l=some true:=by
 have loop:∃ t:A2 Bool×A2 Int×List (Int×Wait)×Wld,zih l 0 ⟨false,false⟩ ⟨0,0⟩ [] newW=some (.inr t):=by
  rw[zih]
  have:=zxq (F:=fun s:(List Deed)×Int×(A2 Bool)×(A2 Int)×(List (Int×Wait))×Wld=>(zd3 s.1 s.2.1 s.2.2.1 s.2.2.2.1 s.2.2.2.2.1 s.2.2.2.2.2).run) (z6o l) (fun i (t:A2 Bool×A2 Int×List (Int×Wait)×Wld)=>(l,(i:Int),t.1,t.2.1,t.2.2.1,t.2.2.2))
   (fun i t=>OkW t.2.2.2∧t.2.2.2.deeds=i∧OneW t.2.2.2∧HoldW t.2.2.2∧zalk t.2.2.2 t.1 t.2.1 t.2.2.1) (fun t=>.inr (t.1,t.2.1,t.2.2.1,t.2.2.2)) ?_ ?_ (t:=(⟨false,false⟩,⟨0,0⟩,[],newW)) ⟨zaa6,rfl,zap1,zali,zall⟩
  ·obtain ⟨t,h1,_⟩:=this
   exact ⟨t,h1⟩
  ·rintro ⟨g,r,m,w⟩ ⟨h,_⟩
   simp only[zd3]
   rw[Tr.rf zaih,Tr.rl]
  ·rintro i ⟨g,r,m,w⟩ hi ⟨h,hd,h1,hh,hj⟩
   have hlt:=zald hi
   have hn:=hl.2 _ (zdg (l:=l) (k:=i) hlt default)
   have ho:=z8y h (l.getD i default)
   have hd:w.deeds=i:=hd
   have h120:w.deeds < 120:=by unfold z6o at hi;omega
   have hst:=zain h (by omega) hh hj.ask hj.pos (l.getD i default)
   obtain ⟨g',r',m',hk,hj'⟩:=zaip ho (l.getD i default) (doW w (l.getD i default)).2 hst hj
   refine ⟨(g',r',m',(doW w (l.getD i default)).1),?_,ho,by show (doW w (l.getD i default)).1.deeds=_;rw[zale _ (by omega),hd];omega,zaup h (by omega) h1 _,zap2 h (by omega) (by have:=h.ph;omega) h1 hh _,hj'⟩
   simp only[zd3]
   rw[yy4,Tr.rt (zaii hi),Tr.rg ⟨by omega,by rw[zzb];omega⟩,Tr.rb (zaie h hn),Tr.rg ⟨by omega,by rw[zzb];omega⟩,hk,Tr.rg (by rfl),Tr.rf (by rfl),Tr.rl,zv (by have:=hl.1;omega)]
   rfl
 obtain ⟨t,h1⟩:=loop
 rw[zkr,zrd,Tr.rb (v:=(true,t.1,t.2.1,t.2.2.1,t.2.2.2)) (by
  rw[zry,zny,Tr.rb zalc,Tr.rf (by rfl),Tr.rb zaib,Tr.rj (v:=t) (by exact h1),Tr.rl]),Tr.rl]
