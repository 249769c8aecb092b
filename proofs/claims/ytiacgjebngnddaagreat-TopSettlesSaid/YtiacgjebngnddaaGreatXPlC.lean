/-
  The plain lemmas.
-/
import Derived.Test.YtiacgjebngnddaaGreatXFCodec
import Derived.Test.YtiacgjebngnddaaGreatXFTop
import Derived.Test.YtiacgjebngnddaaGreatXFWld
import Derived.Test.YtiacgjebngnddaaGreatXPlB
namespace Go.Proofs.YtiacgjebngnddaaGreat.Ab
open Go Go.RowKit
open Go.IntKind (i64 u64)
set_option linter.unusedVariables false
set_option linter.unusedSimpArgs false
def pkT (q:Packet):ByteArray:=txt (znb q)
theorem z7v {p q:Packet} (hp:zcs p=0) (hq:zcs q=0) (h:pkT p=pkT q):p=q:=by
 have h1:znb p=znb q:=by have:=congrArg (fun b:ByteArray=>b.data.toList) h;exact this
 have h2:=zzb hp
 rw[h1,zzb hq] at h2
 exact (congrArg Prod.fst h2).symm
def zaaf (s:List Power) (l:List Packet):List Power:=l.foldl (fun s q=>zsp s q.Set) s
theorem zaag (s:List Power) (l m:List Packet):zaaf s (l++m)=zaaf (zaaf s l) m:=List.foldl_append
def zag2 (id:Int) (l:List Packet):Int:=l.foldl (fun _ q=>q.Id) id
def zaah:Int→List Packet→Prop
 | _,[]=>True
 | id,q::l=>id < q.Id∧zaah q.Id l
theorem rises_app:∀ {l m:List Packet} {id:Int},zaah id (l++m)↔zaah id l∧zaah (zag2 id l) m
 | [],m,id=>by simp[zaah,zag2]
 | q::l,m,id=>by
  simp only[List.cons_append,zaah]
  rw[rises_app (l:=l)]
  exact ⟨fun ⟨a,b,c⟩=>⟨⟨a,b⟩,c⟩,fun ⟨⟨a,b⟩,c⟩=>⟨a,b,c⟩⟩
theorem z7w {n:Int}:∀ {l:List Packet} {id:Int},id≤n→(∀ q,q∈l→q.Id≤n)→zag2 id l≤n
 | [],_,h,_=>h
 | q::l,_,_,h=>z7w (l:=l) (h q (List.mem_cons_self ..)) (fun r hr=>h r (List.mem_cons_of_mem _ hr))
theorem z3f {now:Int}:∀ (l:List Packet) (c:Consumer),(l.foldl (znc now) c).Set=zaaf c.Set l∧(l.foldl (znc now) c).Id=zag2 c.Id l
 | [],_=>⟨rfl,rfl⟩
 | q::l,c=>by
  obtain ⟨h1,h2⟩:=z3f l (znc now c q)
  rw[zr9] at h1 h2
  rw[List.foldl_cons,zr9]
  exact ⟨h1,h2⟩
structure WayI (w:Wld) (i:Int) (ms:List Packet):Prop where
 way:(zc w.p.Links i).Out.Said.drop (zc w.p.Links i).Out.Got.toNat=ms.map pkT
 good:∀ q,q∈ms→zcs q=0∧q.Kind=1
 rise:zaah (za w.consumers i).Id ((za w.consumers i).Pending++ms)
 id:(za w.consumers i).Id≤w.p.Height
 ids:∀ q,q∈(za w.consumers i).Pending++ms→q.Id≤w.p.Height
 told:zaaf (za w.consumers i).Set ((za w.consumers i).Pending++ms)=(zc w.p.Links i).Told
theorem WayI.same {w w':Wld} {i:Int} {ms:List Packet} (h:WayI w i ms) (e1:(zc w'.p.Links i).Out.Said=(zc w.p.Links i).Out.Said) (e2:(zc w'.p.Links i).Out.Got=(zc w.p.Links i).Out.Got) (e3:(zc w'.p.Links i).Told=(zc w.p.Links i).Told)
  (e4:(za w'.consumers i).Id=(za w.consumers i).Id) (e5:(za w'.consumers i).Pending=(za w.consumers i).Pending) (e6:(za w'.consumers i).Set=(za w.consumers i).Set) (e7:w.p.Height≤w'.p.Height):WayI w' i ms:=by
 obtain ⟨a1,a2,a3,a4,a5,a6⟩:=h
 exact ⟨by rw[e1,e2];exact a1,a2,by rw[e4,e5];exact a3,by rw[e4];omega,fun q hq=>by rw[e5] at hq;have:=a5 q hq;omega,by rw[e5,e6,e3];exact a6⟩
theorem WayI.cons {w w':Wld} {i j:Int} {ms:List Packet} {c:Consumer} (hj:0≤j∧j < 2) (hi:0≤i∧i < 2) (h:WayI w i ms) (hl:(zc w'.p.Links i).Out.Said=(zc w.p.Links i).Out.Said∧(zc w'.p.Links i).Out.Got=(zc w.p.Links i).Out.Got∧(zc w'.p.Links i).Told=(zc w.p.Links i).Told)
  (hc:w'.consumers=zjh w.consumers j c) (h1:c.Id=(za w.consumers j).Id) (h2:c.Pending=(za w.consumers j).Pending) (h3:c.Set=(za w.consumers j).Set) (hH:w.p.Height≤w'.p.Height):WayI w' i ms:=by
 have e:=zk4 (C:=w.consumers) hj hi c
 refine h.same hl.1 hl.2.1 hl.2.2 ?_ ?_ ?_ hH
 all_goals
  rw[hc,e]
  split
  ·rename_i k;rw[k];assumption
  ·rfl
def zag3 (w:Wld):Prop:=∀ i:Int,0≤i∧i < 2→(za w.consumers i).On=true→∃ ms,WayI w i ms
theorem zaai {α:Type} {l:List α} {x:α} {k:Nat} (h:k≤l.length):(l++[x]).drop k=l.drop k++[x]:=List.drop_append_of_le_length h
theorem zaks {w:Wld} (h:OkW w) (hd:w.deeds < 600) (ht:zag3 w) (d:Deed):zag3 (doW w d).1:=by
 intro i hi
 refine z06 h hd d (P:=fun w' r=>(za w'.consumers i).On=true→∃ ms,WayI w' i ms) ?_ ?_ ?_ ?_ ?_ ?_ ?_ ?_ ?_ ?_ ?_ ?_ ?_ ?_ ?_
 ·intro w' r a _ ho
  rw[a.c] at ho
  obtain ⟨ms,hm⟩:=ht i hi ho
  exact ⟨ms,hm.same (by rw[a.p]) (by rw[a.p]) (by rw[a.p]) (by rw[a.c]) (by rw[a.c]) (by rw[a.c]) (by rw[a.p];exact Int.le_refl _)⟩
 ·intro _ _ ho;obtain ⟨ms,hm⟩:=ht i hi ho;exact ⟨ms,hm.same rfl rfl rfl rfl rfl rfl (Int.le_refl _)⟩
 ·intro _ _ ho;obtain ⟨ms,hm⟩:=ht i hi ho;exact ⟨ms,hm.same rfl rfl rfl rfl rfl rfl (Int.le_refl _)⟩
 ·intro _ _ ho;obtain ⟨ms,hm⟩:=ht i hi ho;exact ⟨ms,hm.same rfl rfl rfl rfl rfl rfl (Int.le_refl _)⟩
 ·intro _ _ _ _ ho;obtain ⟨ms,hm⟩:=ht i hi ho;exact ⟨ms,hm.same rfl rfl rfl rfl rfl rfl (Int.le_refl _)⟩
 ·intro _ _ _ ho;obtain ⟨ms,hm⟩:=ht i hi ho;exact ⟨ms,hm.same rfl rfl rfl rfl rfl rfl (Int.le_refl _)⟩
 ·intro _ ho
  obtain ⟨ms,hm⟩:=ht i hi ho
  have hg:zaa w.p=true∧w.p.Time≤w.clock∧w.clock≤1099511627776:=⟨h.pr,h.pt,by have:=h.t1;omega⟩
  obtain ⟨D',-,hD⟩:=zsd hg hi
  obtain ⟨r1,r2,r3,r4,-⟩:=zin hg
  have hH:(zay w).p.Height=w.p.Height+1:=r1
  have hset:zec (fP (ze9 w.p w.clock).1.Set)=(ze9 w.p w.clock).1.Set:=by rw[r4];exact z0a _
  rcases hD with ⟨e1,e2,e3,e4,-⟩ | ⟨e1,e2,e3,e4,e5,e6,e7,e8,e9⟩
  ·have el:(zc (zay w).p.Links i).Out=(zc w.p.Links i).Out:=e4
   exact ⟨ms,hm.same (by rw[el]) (by rw[el]) e1 rfl rfl rfl (by omega)⟩
  ·have el:(zc (zay w).p.Links i).Out=_:=e9
   have gl:=(h.p.lk hi).line
   have hgot:(zc w.p.Links i).Out.Got.toNat≤(zc w.p.Links i).Out.Said.length:=by
    have a1:0≤(zc w.p.Links i).Out.Got:=gl.2.2.1
    have a2:(zc w.p.Links i).Out.Got≤(((zc w.p.Links i).Out.Said.length:Nat):Int):=gl.2.2.2.1
    omega
   obtain ⟨a1,a2,a3,a4,a5,a6⟩:=hm
   obtain ⟨k,hk⟩:∃ k:Packet,k=⟨1,(ze9 w.p w.clock).1.Height,0,0,zoq (fP (w.p.Links.Told.get i)) (fP (ze9 w.p w.clock).1.Set),D'⟩:=⟨_,rfl⟩
   rw[← hk] at e8 el
   have kid:k.Id=w.p.Height+1:=by rw[hk];exact r1
   refine ⟨ms++[k],⟨?_,?_,?_,?_,?_,?_⟩⟩
   ·rw[el]
    show ((zc w.p.Links i).Out.Said++[txt (znb k)]).drop (zc w.p.Links i).Out.Got.toNat=_
    rw[zaai hgot,a1,List.map_append];rfl
   ·intro q hq
    rcases List.mem_append.1 hq with hq | hq
    ·exact a2 q hq
    ·rw[List.mem_singleton.1 hq];exact ⟨e8,by rw[hk]⟩
   ·show zaah (za w.consumers i).Id ((za w.consumers i).Pending++(ms++[k]))
    rw[← List.append_assoc,rises_app]
    refine ⟨a3,?_,trivial⟩
    have:=z7w (n:=w.p.Height) a4 a5
    omega
   ·show (za w.consumers i).Id≤(zay w).p.Height;omega
   ·intro q hq
    have hq':q∈(za w.consumers i).Pending++(ms++[k]):=hq
    rw[← List.append_assoc] at hq'
    rcases List.mem_append.1 hq' with hq' | hq'
    ·have:=a5 q hq';omega
    ·rw[List.mem_singleton.1 hq'];omega
   ·show zaaf (za w.consumers i).Set ((za w.consumers i).Pending++(ms++[k]))=(zc (ze9 w.p w.clock).1.Links i).Told
    rw[← List.append_assoc,zaag,a6]
    show zsp (zc w.p.Links i).Told k.Set=(ze9 w.p w.clock).1.Links.Told.get i
    rw[e1,hk]
    exact zaet hset
 ·intro _ hj hg hno _ _ ho
  by_cases e:i=d.C
  ·rw[e]
   have hci:za (zsx w d.C).consumers d.C=zje w.p.Set w.p.Height w.clock:=zap hj _
   have el:zc (zsx w d.C).p.Links d.C=_:=zfb (L:=w.p.Links) (H:=w.p.Height) (T:=w.p.Set) (f:=zsq w.p) hj hj
   rw[if_pos rfl] at el
   refine ⟨[],⟨by rw[el];rfl,by simp,by rw[hci];trivial,by rw[hci];exact Int.le_refl _,?_,by rw[hci,el];rfl⟩⟩
   rw[hci];intro q hq;cases hq
  ·have hci:za (zsx w d.C).consumers i=za w.consumers i:=z5 hj hi e _
   have el:zc (zsx w d.C).p.Links i=_:=zfb (L:=w.p.Links) (H:=w.p.Height) (T:=w.p.Set) (f:=zsq w.p) hj hi
   rw[if_neg e] at el
   rw[hci] at ho
   obtain ⟨ms,hm⟩:=ht i hi ho
   exact ⟨ms,hm.same (by rw[el]) (by rw[el]) (by rw[el]) (by rw[hci]) (by rw[hci]) (by rw[hci]) (Int.le_refl _)⟩
 ·intro _ hj hon ho
  have hw:=h.c d.C hj
  obtain ⟨e0,m,k,hm0,hpm,hl,hk,hf,f1,-⟩:=zq3 (now:=w.clock) hw.good hon ⟨hw.time,by have:=h.t1;omega⟩ (by have:=hw.height;omega)
  by_cases e:i=d.C
  ·rw[e]
   obtain ⟨ms,a1,a2,a3,a4,a5,a6⟩:=ht d.C hj hon
   have hci:za (zba w d.C).consumers d.C=(zt9 w.clock (za w.consumers d.C)).1:=zap hj _
   obtain ⟨s1,s2⟩:=z3f (now:=w.clock) (za w.consumers d.C).Pending { za w.consumers d.C with Height:=(za w.consumers d.C).Height+1,Time:=w.clock }
   rw[← hm0] at s1 s2
   have q1:(za (zba w d.C).consumers d.C).Id=zag2 (za w.consumers d.C).Id (za w.consumers d.C).Pending:=by rw[hci,hf];exact s2
   have q2:(za (zba w d.C).consumers d.C).Set=zaaf (za w.consumers d.C).Set (za w.consumers d.C).Pending:=by rw[hci,hf];exact s1
   have q3:(za (zba w d.C).consumers d.C).Pending=[]:=by rw[hci,hf]
   refine ⟨ms,⟨a1,a2,?_,?_,?_,?_⟩⟩
   ·rw[q1,q3];exact (rises_app.1 a3).2
   ·rw[q1];exact z7w a4 (fun q hq=>a5 q (List.mem_append_left _ hq))
   ·rw[q3];exact fun q hq=>a5 q (List.mem_append_right _ hq)
   ·rw[q2,q3,List.nil_append,← zaag];exact a6
  ·have hci:za (zba w d.C).consumers i=za w.consumers i:=z5 hj hi e _
   rw[hci] at ho
   obtain ⟨ms,hm⟩:=ht i hi ho
   exact ⟨ms,hm.same rfl rfl rfl (by rw[hci]) (by rw[hci]) (by rw[hci]) (Int.le_refl _)⟩
 ·intro _ hj _ _ ho
  obtain ⟨ms,hm⟩:=ht i hi ho
  have el:zc (zi5 w d.C).p.Links i=_:=zgv (L:=w.p.Links) hj hi (z4d w.heads d.C)
  exact ⟨ms,hm.same (by rw[el];split<;>rfl) (by rw[el];split<;>rfl) (by rw[el];split<;>rfl) rfl rfl rfl (Int.le_refl _)⟩
 ·intro _ hj hon _ ho
  have hoi:(za w.consumers i).On=true:=by
   have e:=zk4 (C:=w.consumers) hj hi { za w.consumers d.C with Seen:=zyg w.heads d.C }
   have ho':(za (zjh w.consumers d.C { za w.consumers d.C with Seen:=zyg w.heads d.C }) i).On=true:=ho
   rw[e] at ho'
   split at ho'
   ·rename_i k;rw[k];exact hon
   ·exact ho'
  obtain ⟨ms,hm⟩:=ht i hi hoi
  exact ⟨ms,.cons hj hi hm ⟨rfl,rfl,rfl⟩ rfl rfl rfl rfl (Int.le_refl _)⟩
 ·intro q _ hj hon _ _ _ ho
  have hoi:(za w.consumers i).On=true:=by
   have e:=zk4 (C:=w.consumers) hj hi { za w.consumers d.C with Out:={ (za w.consumers d.C).Out with Got:=(za w.consumers d.C).Out.Got+1 } }
   have ho':(za (zjh w.consumers d.C { za w.consumers d.C with Out:={ (za w.consumers d.C).Out with Got:=(za w.consumers d.C).Out.Got+1 } }) i).On=true:=ho
   rw[e] at ho'
   split at ho'
   ·rename_i k;rw[k];exact hon
   ·exact ho'
  obtain ⟨ms,hm⟩:=ht i hi hoi
  exact ⟨ms,.cons hj hi hm ⟨rfl,rfl,rfl⟩ rfl rfl rfl rfl (Int.le_refl _)⟩
 ·intro q _ hj hon _ hcm hq1 ho
  have el:zc (z05 w d.C q).p.Links i=_:=zhb (L:=w.p.Links) hj hi { (zc w.p.Links d.C).Out with Got:=(zc w.p.Links d.C).Out.Got+1 }
  by_cases e:i=d.C
  ·rw[e] at el ⊢
   rw[if_pos rfl] at el
   obtain ⟨ms,a1,a2,a3,a4,a5,a6⟩:=ht d.C hj hon
   have hci:za (z05 w d.C q).consumers d.C={ za w.consumers d.C with Pending:=(za w.consumers d.C).Pending++[q] }:=zap hj _
   have hgot:(zc w.p.Links d.C).Out.Got.toNat < (zc w.p.Links d.C).Out.Said.length:=hcm.got
   have hg0:0≤(zc w.p.Links d.C).Out.Got:=hcm.good.2.2.1
   have htx:(zc w.p.Links d.C).Out.Said.getD (zc w.p.Links d.C).Out.Got.toNat .empty=txt (znb q):=hcm.text
   rw[zau hgot .empty,htx] at a1
   cases ms with
   | nil=>cases a1
   | cons m ms =>
    rw[List.map_cons] at a1
    obtain ⟨b1,b2⟩:=List.cons.inj a1
    have hm:m=q:=(z7v hcm.pk (a2 m (List.mem_cons_self ..)).1 b1).symm
    subst hm
    have hlist:(za w.consumers d.C).Pending++m::ms=(za w.consumers d.C).Pending++[m]++ms:=by simp
    rw[hlist] at a3 a5 a6
    refine ⟨ms,⟨?_,fun r hr=>a2 r (List.mem_cons_of_mem _ hr),by rw[hci];exact a3,by rw[hci];exact a4,by rw[hci];exact a5,by rw[hci,el];exact a6⟩⟩
    rw[el]
    show (zc w.p.Links d.C).Out.Said.drop ((zc w.p.Links d.C).Out.Got+1).toNat=_
    rw[show ((zc w.p.Links d.C).Out.Got+1).toNat=(zc w.p.Links d.C).Out.Got.toNat+1 by omega]
    exact b2
  ·rw[if_neg e] at el
   have hci:za (z05 w d.C q).consumers i=za w.consumers i:=z5 hj hi e _
   rw[hci] at ho
   obtain ⟨ms,hm⟩:=ht i hi ho
   exact ⟨ms,hm.same (by rw[el]) (by rw[el]) (by rw[el]) (by rw[hci]) (by rw[hci]) (by rw[hci]) (Int.le_refl _)⟩
 ·intro _ hj hon _ ho
  by_cases e:i=d.C
  ·have hci:za (zq4 w d.C).consumers d.C=_:=zap hj _
   rw[e,hci] at ho;cases ho
  ·have hci:za (zq4 w d.C).consumers i=za w.consumers i:=z5 hj hi e _
   have el:zc (zq4 w d.C).p.Links i=_:=zed (L:=w.p.Links) hj hi
   rw[if_neg e] at el
   rw[hci] at ho
   obtain ⟨ms,hm⟩:=ht i hi ho
   exact ⟨ms,hm.same (by rw[el]) (by rw[el]) (by rw[el]) (by rw[hci]) (by rw[hci]) (by rw[hci]) (Int.le_refl _)⟩
 ·intro q f _ hj hon _ _ _ _ ho
  have hoi:(za w.consumers i).On=true:=by
   have e:=zk4 (C:=w.consumers) hj hi (zaae w d.C q f)
   have ho':(za (zjh w.consumers d.C (zaae w d.C q f)) i).On=true:=ho
   rw[e] at ho'
   split at ho'
   ·rename_i k;rw[k];exact hon
   ·exact ho'
  obtain ⟨ms,hm⟩:=ht i hi hoi
  exact ⟨ms,.cons hj hi hm ⟨rfl,rfl,rfl⟩ rfl rfl rfl rfl (Int.le_refl _)⟩
def zac0 (k:Nat) (n:Nat) (f:Nat→Int):List Power:=match n with
 | 0=>[]
 | n+1=>zq5 (k:Int) (f k)++zac0 (k+1) n f
theorem zag4 (f:Nat→Int):zec f=zac0 0 6 f:=by rw[zr0];rfl
theorem z3g {f g:Nat→Int}:∀ (n k:Nat),(∀ v,k≤v→f v=g v)→zac0 k n f=zac0 k n g
 | 0,_,_=>rfl
 | n+1,k,h=>by
  show zq5 _ (f k)++_=zq5 _ (g k)++_
  rw[h k (Nat.le_refl _),z3g n (k+1) (fun v hv=>h v (by omega))]
theorem z5l:∀ {l:List Power} {p v:Int},zx 1 p l=true→v≤p→zb8 l v=0
 | [],_,_,_,_=>rfl
 | q::l,p,v,h,hv=>by
  rw[zx] at h
  simp only[yy7,decide_eq_true_eq] at h
  obtain ⟨⟨⟨⟨h1,h2⟩,h3⟩,h4⟩,h5⟩:=h
  rw[zb8,if_neg (by omega)]
  exact z5l h5 (by omega)
theorem zyj:∀ (n k:Nat) {l:List Power},k+n=6→zx 1 ((k:Int) - 1) l=true→zac0 k n (fP l)=l
 | 0,k,[],_,_=>rfl
 | 0,k,q::l,e,h=>by
  rw[zx] at h
  simp only[yy7,decide_eq_true_eq] at h
  omega
 | n+1,k,[],e,h=>by
  show zq5 (k:Int) 0++zac0 (k+1) n (fP [])=[]
  rw[zyj n (k+1) (l:=[]) (by omega) rfl];rfl
 | n+1,k,q::l,e,h=>by
  have h0:=h
  rw[zx] at h
  simp only[yy7,decide_eq_true_eq] at h
  obtain ⟨⟨⟨⟨h1,h2⟩,h3⟩,h4⟩,h5⟩:=h
  show zq5 (k:Int) (fP (q::l) k)++zac0 (k+1) n (fP (q::l))=q::l
  by_cases c:q.V=(k:Int)
  ·have e1:fP (q::l) k=q.N:=by show zb8 (q::l) (k:Int)=_;rw[zb8,if_pos c]
   have h6:zx 1 (((k+1:Nat):Int) - 1) l=true:=by rw[c] at h5;rw[show (((k+1:Nat):Int) - 1)=(k:Int) by omega];exact h5
   rw[e1,z3g (f:=fP (q::l)) (g:=fP l) n (k+1) (fun v hv=>by
    show zb8 (q::l) (v:Int)=_
    rw[zb8,if_neg (by omega)];rfl),zyj n (k+1) (by omega) h6]
   unfold zq5
   rw[if_pos (by omega),← c]
   rfl
  ·have h6:zx 1 (k:Int) (q::l)=true:=by
    rw[zx]
    simp only[yy7,decide_eq_true_eq]
    exact ⟨⟨⟨⟨by omega,h2⟩,h3⟩,h4⟩,h5⟩
   have e1:fP (q::l) k=0:=z5l h6 (Int.le_refl _)
   rw[e1,zyj n (k+1) (by omega) (by rw[show (((k+1:Nat):Int) - 1)=(k:Int) by omega];exact h6)]
   rfl
theorem zakt {l:List Power} (h:zx 1 (-1) l=true):zec (fP l)=l:=by rw[zag4];exact zyj 6 0 rfl h
theorem zag5 {l:List Power} (h:zx 1 (-1) l=true):zsp l []=l:=zakt h
theorem zan5 {w:Wld} (h:OkW w) (hd:w.deeds < 600) {d:Deed} (k:d.Kind=6):(doW w d).1=zay w:=by
 have ht:zaa w.p=true∧w.p.Time≤w.clock∧w.clock≤1099511627776:=⟨h.pr,h.pt,by have:=h.t1;omega⟩
 unfold doW
 rw[if_neg (by omega)]
 unfold actW
 rw[if_neg (by omega),if_neg (by omega),if_neg (by omega),if_neg (by omega),if_neg (by omega),if_pos k]
 unfold zka
 rw[if_neg (by show ¬ (ze9 w.p w.clock).2.2≠0;rw[zacr ht];simp)]
 rfl
theorem zag6 {l:List Power} (hl:l.length≤9223372036854775807):zcg l l=some true:=by
 have key:zhp l l 0=some (.inr ()):=by
  rw[zhp]
  refine (zadz (F:=fun s:(List Power)×(List Power)×Int=>(zdf s.1 s.2.1 s.2.2).run) l default (fun i=>(l,l,(i:Int))) (fun _=>true) false () ?_ ?_ ?_).trans ?_
  ·simp only[zdf];rw[Tr.rf (by simp),Tr.rl]
  ·intro i hi _
   simp only[zdf,yy4]
   rw[Tr.rt (by simpa using hi),Tr.rg ⟨by omega,by rw[za2];omega⟩,Tr.rg ⟨by omega,by rw[za2];omega⟩,Tr.rf (by simp),Tr.rl,zy (by omega)]
  ·intro i hi hp;cases hp
  ·rw[if_pos (by simp)]
 rw[zcg,zmg,Tr.rf (by simp),Tr.rj key,Tr.rl]
theorem zan6:zag3 newW:=by
 intro i hi ho
 rcases (show i=0∨i=1 by omega) with rfl | rfl<;>cases ho
def hN (x:Wait) (i:Int):Int:=if i=0 then x.h0 else x.h1
structure Near (y x:Wait):Prop where
 num:x.Number=y.Number
 due:x.Due=y.Due
 height:x.Height=y.Height
 v:x.V=y.V
 hold:∀ i:Int,0≤i∧i < 2→hN x i=hN y i∨hN x i=0
theorem Near.refl (x:Wait):Near x x:=⟨rfl,rfl,rfl,rfl,fun _ _=>.inl rfl⟩
theorem Near.trans {a b c:Wait} (h:Near a b) (k:Near b c):Near a c :=
 ⟨k.num.trans h.num,k.due.trans h.due,k.height.trans h.height,k.v.trans h.v,fun i hi=>by
  rcases k.hold i hi with e | e
  ·rw[e];exact h.hold i hi
  ·exact .inr e⟩
def NearW (W W':List Wait):Prop:=∀ x,x∈W'→∃ y,y∈W∧Near y x
theorem NearW.refl (W:List Wait):NearW W W:=fun x hx=>⟨x,hx,.refl x⟩
theorem NearW.trans {A B C:List Wait} (h:NearW A B) (k:NearW B C):NearW A C:=fun x hx=>by
 obtain ⟨y,hy,n1⟩:=k x hx
 obtain ⟨z,hz,n2⟩:=h y hy
 exact ⟨z,hz,n2.trans n1⟩
theorem NearW.map {W:List Wait} {f:Wait→Wait} (hf:∀ x,Near x (f x)):NearW W (W.map f):=fun x hx=>by
 obtain ⟨y,hy,rfl⟩:=List.mem_map.1 hx
 exact ⟨y,hy,hf y⟩
theorem zae0 {c h:Int} {x:Wait} {i:Int} (hi:0≤i∧i < 2):hN (z9i c h x) i=if c=i∧hN x i≤h then 0 else hN x i:=by
 rcases (show i=0∨i=1 by omega) with rfl | rfl<;>rfl
theorem zae1 (c h:Int) (x:Wait):Near x (z9i c h x) :=
 ⟨rfl,rfl,rfl,rfl,fun i hi=>by rw[zae0 hi];split;exact .inr rfl;exact .inl rfl⟩
theorem zaso (v h f:Int) (x:Wait):Near x (slW v h f x):=by
 unfold slW
 split
 ·exact ⟨rfl,rfl,rfl,rfl,fun i hi=>.inl (by rcases (show i=0∨i=1 by omega) with rfl | rfl<;>rfl)⟩
 ·exact .refl x
theorem zsf (s:Stake) (v what:Int):(za8 s v what).1.Waits=s.Waits:=by
 unfold za8
 repeat' split
 all_goals rfl
theorem z4f (s:Stake) (d v n:Int):(zbj s d v n).1.Waits=s.Waits:=by
 unfold zbj
 repeat' split
 all_goals rfl
theorem z5m (s:Stake) (v h f:Int):NearW s.Waits (zef s v h f).1.Waits:=by
 unfold zef
 repeat' split
 ·exact .refl _
 ·exact .refl _
 ·exact NearW.map (zaso v h f)
theorem zaaj (p:zb) (a:Asked):NearW p.Stake.Waits (zg9 p a).1.Stake.Waits:=by
 unfold zg9
 repeat' split
 ·exact NearW.map (zae1 _ _)
 ·exact .refl _
 ·show NearW _ (za8 (zef p.Stake a.P.V (zase p a) 50).1 a.P.V 2).1.Waits
  rw[zsf];exact z5m _ _ _ _
 ·exact .refl _
 ·show NearW _ (za8 p.Stake a.P.V 0).1.Waits
  rw[zsf];exact .refl _
 ·exact .refl _
theorem zaku (t:zb×A2 Bool×List Asked) (a:Asked):NearW t.1.Stake.Waits (zha t a).1.Stake.Waits:=by
 unfold zha
 repeat' split
 ·exact .refl _
 ·exact zaaj _ _
 ·exact zaaj _ _
def Freed (W:List Wait) (c n:Int):Prop:=∀ x,x∈W→hN x c=0∨n < hN x c
theorem Freed.near {W W':List Wait} {c n:Int} (hc:0≤c∧c < 2) (h:Freed W c n) (k:NearW W W'):Freed W' c n:=fun x hx=>by
 obtain ⟨y,hy,n1⟩:=k x hx
 rcases n1.hold c hc with e | e
 ·rw[e];exact h y hy
 ·exact .inl e
theorem zag7 (t:zb×A2 Bool×List Asked) (a:Asked):∀ b,b∈t.2.2→b∈(zha t a).2.2:=by
 intro b hb
 unfold zha
 repeat' split
 ·exact List.mem_append_left _ hb
 ·exact hb
 ·exact List.mem_append_left _ hb
theorem zut:∀ (l:List Asked) (t:zb×A2 Bool×List Asked),(∀ b,b∈t.2.2→b∈(l.foldl zha t).2.2)∧NearW t.1.Stake.Waits (l.foldl zha t).1.Stake.Waits
 | [],t=>⟨fun _ h=>h,.refl _⟩
 | a::l,t=>by
  obtain ⟨h1,h2⟩:=zut l (zha t a)
  exact ⟨fun b hb=>h1 b (zag7 t a b hb),(zaku t a).trans h2⟩
theorem z5n:∀ (l:List Asked) (t:zb×A2 Bool×List Asked),(∀ a,a∈l→0≤a.C∧a.C < 2)→∀ a,a∈l→a.P.Kind=2→a∈(l.foldl zha t).2.2∨Freed (l.foldl zha t).1.Stake.Waits a.C a.P.Id
 | [],_,_,a,ha,_=>by cases ha
 | b::l,t,hc,a,ha,h2=>by
  obtain ⟨g1,g2⟩:=zut l (zha t b)
  rcases List.mem_cons.1 ha with rfl | ha
  ·have hca:=hc a (List.mem_cons_self ..)
   have:a∈(zha t a).2.2∨Freed (zha t a).1.Stake.Waits a.C a.P.Id:=by
    unfold zha
    split
    ·exact .inl (by simp)
    ·have e:zg9 t.1 a=({ t.1 with Stake:=zim t.1.Stake a.C a.P.Id },true):=by unfold zg9;rw[if_pos h2]
     rw[e,if_pos rfl]
     refine .inr fun x hx=>?_
     have hx:x∈t.1.Stake.Waits.map (z9i a.C a.P.Id):=hx
     obtain ⟨y,hy,rfl⟩:=List.mem_map.1 hx
     rw[zae0 hca]
     split
     ·exact .inl rfl
     ·rename_i k
      refine .inr ?_
      have:¬ hN y a.C≤a.P.Id:=fun h=>k ⟨rfl,h⟩
      omega
   rcases this with h | h
   ·exact .inl (g1 a h)
   ·exact .inr (h.near hca g2)
  ·exact z5n l (zha t b) (fun c k=>hc c (List.mem_cons_of_mem _ k)) a ha h2
def zaq (b:Bool):Int:=if b=true then 1 else 0
def jN (V:Validators):Int:=zaq V.Jailed.x0+zaq V.Jailed.x1+zaq V.Jailed.x2+zaq V.Jailed.x3+zaq V.Jailed.x4+zaq V.Jailed.x5
theorem zio (b:Bool):0≤zaq b∧zaq b≤1:=by cases b<;>decide
theorem zaw4 (V:Validators):0≤jN V∧jN V≤6:=by
 have h0:=zio V.Jailed.x0;have h1:=zio V.Jailed.x1;have h2:=zio V.Jailed.x2;have h3:=zio V.Jailed.x3;have h4:=zio V.Jailed.x4;have h5:=zio V.Jailed.x5
 unfold jN;omega
theorem zapf {V V':Validators} {v:Int} (hv:0≤v∧v < 6) (e:V'.Jailed=V.Jailed.set v true):jN V≤jN V'∧(V.Jailed.get v=false→jN V'=jN V+1):=by
 have h0:=zio V.Jailed.x0;have h1:=zio V.Jailed.x1;have h2:=zio V.Jailed.x2;have h3:=zio V.Jailed.x3;have h4:=zio V.Jailed.x4;have h5:=zio V.Jailed.x5
 have t:zaq true=1:=rfl
 have f:zaq false=0:=rfl
 unfold jN
 rw[e]
 obtain rfl | rfl | rfl | rfl | rfl | rfl:v=0∨v=1∨v=2∨v=3∨v=4∨v=5:=by omega
 ·refine ⟨by show _≤zaq true+zaq V.Jailed.x1+zaq V.Jailed.x2+zaq V.Jailed.x3+zaq V.Jailed.x4+zaq V.Jailed.x5;omega,fun k=>?_⟩
  have k:V.Jailed.x0=false:=k
  show zaq true+zaq V.Jailed.x1+zaq V.Jailed.x2+zaq V.Jailed.x3+zaq V.Jailed.x4+zaq V.Jailed.x5=_
  rw[k];omega
 ·refine ⟨by show _≤zaq V.Jailed.x0+zaq true+zaq V.Jailed.x2+zaq V.Jailed.x3+zaq V.Jailed.x4+zaq V.Jailed.x5;omega,fun k=>?_⟩
  have k:V.Jailed.x1=false:=k
  show zaq V.Jailed.x0+zaq true+zaq V.Jailed.x2+zaq V.Jailed.x3+zaq V.Jailed.x4+zaq V.Jailed.x5=_
  rw[k];omega
 ·refine ⟨by show _≤zaq V.Jailed.x0+zaq V.Jailed.x1+zaq true+zaq V.Jailed.x3+zaq V.Jailed.x4+zaq V.Jailed.x5;omega,fun k=>?_⟩
  have k:V.Jailed.x2=false:=k
  show zaq V.Jailed.x0+zaq V.Jailed.x1+zaq true+zaq V.Jailed.x3+zaq V.Jailed.x4+zaq V.Jailed.x5=_
  rw[k];omega
 ·refine ⟨by show _≤zaq V.Jailed.x0+zaq V.Jailed.x1+zaq V.Jailed.x2+zaq true+zaq V.Jailed.x4+zaq V.Jailed.x5;omega,fun k=>?_⟩
  have k:V.Jailed.x3=false:=k
  show zaq V.Jailed.x0+zaq V.Jailed.x1+zaq V.Jailed.x2+zaq true+zaq V.Jailed.x4+zaq V.Jailed.x5=_
  rw[k];omega
 ·refine ⟨by show _≤zaq V.Jailed.x0+zaq V.Jailed.x1+zaq V.Jailed.x2+zaq V.Jailed.x3+zaq true+zaq V.Jailed.x5;omega,fun k=>?_⟩
  have k:V.Jailed.x4=false:=k
  show zaq V.Jailed.x0+zaq V.Jailed.x1+zaq V.Jailed.x2+zaq V.Jailed.x3+zaq true+zaq V.Jailed.x5=_
  rw[k];omega
 ·refine ⟨by show _≤zaq V.Jailed.x0+zaq V.Jailed.x1+zaq V.Jailed.x2+zaq V.Jailed.x3+zaq V.Jailed.x4+zaq true;omega,fun k=>?_⟩
  have k:V.Jailed.x5=false:=k
  show zaq V.Jailed.x0+zaq V.Jailed.x1+zaq V.Jailed.x2+zaq V.Jailed.x3+zaq V.Jailed.x4+zaq true=_
  rw[k];omega
theorem zaak (s:Stake) (v h f:Int):(zef s v h f).1.Validators.Jailed=s.Validators.Jailed:=by
 unfold zef
 repeat' split
 all_goals rfl
theorem zae2 {s:Stake} {v what:Int} (hv:0≤v∧v < 6) (hw:what≠1):jN s.Validators≤jN (za8 s v what).1.Validators:=by
 unfold za8
 repeat' split
 ·exact Int.le_refl _
 ·exact Int.le_refl _
 ·exact Int.le_refl _
 ·exact Int.le_refl _
 ·refine (zapf hv ?_).1
  show s.Validators.Jailed.set v (what != 1)=_
  rw[show (what != 1)=true by simpa using hw]
theorem zasp {s:Stake} (hg:GoodS s) {v:Int} (hv:0≤v∧v < 6) (hj:s.Validators.Jailed.get v=false):jN (za8 s v 0).1.Validators=jN s.Validators+1:=by
 unfold za8
 rw[if_neg (by rw[zzg hg (by omega) hv];simp),if_neg (by rw[hj];simp),if_neg (by omega),if_neg (by omega)]
 exact (zapf hv rfl).2 hj
theorem zasq (p:zb) {a:Asked} (hv:0≤a.P.V∧a.P.V < 6):jN p.Stake.Validators≤jN (zg9 p a).1.Stake.Validators:=by
 unfold zg9
 repeat' split
 ·exact Int.le_refl _
 ·exact Int.le_refl _
 ·refine Int.le_trans (Int.le_of_eq ?_) (zae2 (s:=(zef p.Stake a.P.V (zase p a) 50).1) hv (by omega))
  unfold jN;rw[zaak]
 ·exact Int.le_refl _
 ·exact zae2 hv (by omega)
 ·exact Int.le_refl _
def zan7 (j:Int) (t:zb×A2 Bool×List Asked):Prop :=
 (t.2.2=[]∨t.1.Meter.Left≤0)∧j≤jN t.1.Stake.Validators∧(1≤t.1.Meter.Left∨j+1≤jN t.1.Stake.Validators)
theorem zag8 {p0:zb} {j:Int} {i:Nat} {t:zb×A2 Bool×List Asked} (h:z4c p0 i t) {a:Asked} (hc:0≤a.C∧a.C < 2) (hv:0≤a.P.V∧a.P.V < 6) (k:zan7 j t):zan7 j (zha t a):=by
 obtain ⟨k1,k2,k3⟩:=k
 have hj:=zasq t.1 hv
 unfold zha
 by_cases f:t.2.1.get a.C=true
 ·rw[if_pos f]
  have:t.1.Meter.Left≤0:=by
   rcases k1 with e | e
   ·rw[h.2.2.1 a.C hc,e] at f;cases f
   ·exact e
  exact ⟨.inr this,k2,k3⟩
 ·rw[if_neg f]
  by_cases m:(zg9 t.1 a).1.Meter=t.1.Meter
  ·by_cases d:(zg9 t.1 a).2=true
   ·rw[if_pos d]
    refine ⟨by rw[m];exact k1,by show j≤jN (zg9 t.1 a).1.Stake.Validators;omega,?_⟩
    show 1≤(zg9 t.1 a).1.Meter.Left∨j+1≤jN (zg9 t.1 a).1.Stake.Validators
    rw[m];omega
   ·rw[if_neg d]
    have:t.1.Meter.Left≤0:=by
     unfold zg9 at d
     split at d
     ·exact absurd rfl d
     ·split at d
      ·split at d<;>exact absurd rfl d
      ·split at d
       ·exact absurd rfl d
       ·split at d
        ·exact absurd rfl d
        ·rename_i x
         unfold zzi at x
         split at x
         ·assumption
         ·exact absurd rfl x
    refine ⟨.inr (by rw[m];exact this),by show j≤jN (zg9 t.1 a).1.Stake.Validators;omega,?_⟩
    show 1≤(zg9 t.1 a).1.Meter.Left∨j+1≤jN (zg9 t.1 a).1.Stake.Validators
    omega
  ·have hd:a.P.Kind≠2∧a.P.Kind≠4∧t.1.Stake.Validators.Jailed.get a.P.V=false∧(zzi t.1.Meter (zsb t.1 a.P.V)).2=true:=by
    unfold zg9 at m
    split at m
    ·exact absurd rfl m
    ·split at m
     ·split at m<;>exact absurd rfl m
     ·split at m
      ·exact absurd rfl m
      ·split at m
       ·rename_i x1 x2 x3 x4
        exact ⟨x1,x2,Bool.eq_false_iff.2 x3,x4⟩
       ·exact absurd rfl m
   obtain ⟨d1,d2,d3,d4⟩:=hd
   have e:zg9 t.1 a=(zagg { t.1 with Stake:=(za8 t.1.Stake a.P.V 0).1,Meter:=(zzi t.1.Meter (zsb t.1 a.P.V)).1 } a.C a.P.V,true):=by
    unfold zg9
    rw[if_neg d1,if_neg d2,if_neg (by rw[d3];simp),if_pos d4]
   have jn:jN (zg9 t.1 a).1.Stake.Validators=jN t.1.Stake.Validators+1:=by
    rw[e];exact zasp h.1.good hv d3
   have l0:¬ t.1.Meter.Left≤0:=by
    intro l0
    unfold zzi at d4
    rw[if_pos l0] at d4;cases d4
   rw[if_pos (by rw[e])]
   refine ⟨.inl ?_,by show j≤jN (zg9 t.1 a).1.Stake.Validators;omega,.inr (by show j+1≤jN (zg9 t.1 a).1.Stake.Validators;omega)⟩
   rcases k1 with k1 | k1
   ·exact k1
   ·exact absurd k1 l0
theorem z3h {p0:zb} {j:Int}:∀ (l:List Asked) (i:Nat) (t:zb×A2 Bool×List Asked),z4c p0 i t→(∀ a,a∈l→(0≤a.C∧a.C < 2)∧a∈p0.Queue∧(0≤a.P.V∧a.P.V < 6))→zan7 j t→zan7 j (l.foldl zha t)
 | [],_,_,_,_,h=>h
 | a::l,i,t,h,ha,k=>by
  obtain ⟨a1,a2,a3⟩:=ha a (List.mem_cons_self ..)
  exact z3h l (i+1) (zha t a) (z7p h a1 a2) (fun b hb=>ha b (List.mem_cons_of_mem _ hb)) (zag8 h a1 a3 k)
theorem zac1 {p:zb} {now:Int} (hg:zaa p=true):z4c (zhg p now) 0 (zhg p now,⟨false,false⟩,[]) :=
 ⟨z2z hg,by simp,fun c hc=>by rcases (show c=0∨c=1 by omega) with rfl | rfl<;>rfl,fun b hb=>by cases hb⟩
theorem zaw5 {p:zb} (hg:zaa p=true) {now:Int}:∀ a,a∈p.Queue→(0≤a.C∧a.C < 2)∧a∈(zhg p now).Queue∧(0≤a.P.V∧a.P.V < 6):=by
 intro a ha
 refine ⟨(z7r hg a ha).2,ha,?_⟩
 have:=zk0 ((goodPr_iff.1 hg).1.ask ha).2.2.1
 omega
theorem zakv {p:zb} (hg:zaa p=true) {now:Int} (hm:p.Meter.Next≤now):jN p.Stake.Validators≤jN (zbp p now).1.Stake.Validators∧((zbp p now).2.2=[]∨jN p.Stake.Validators+1≤jN (zbp p now).1.Stake.Validators):=by
 have hl:1≤(zhg p now).Meter.Left:=by
  show 1≤(z4b p.Meter (allP p.Set) now).Left
  unfold z4b newM
  rw[if_pos hm]
  show 1≤if allP p.Set < 5 then 1 else allP p.Set / 5
  split<;>omega
 obtain ⟨k1,k2,k3⟩:=z3h (j:=jN p.Stake.Validators) p.Queue 0 _ (zac1 (now:=now) hg) (zaw5 hg) ⟨.inl rfl,Int.le_refl _,.inl hl⟩
 refine ⟨k2,?_⟩
 show (p.Queue.foldl zha (zhg p now,⟨false,false⟩,[])).2.2=[]∨_
 rcases k1 with k1 | k1
 ·exact .inl k1
 ·rcases k3 with k3 | k3
  ·omega
  ·exact .inr k3
theorem zaal:∀ (l:List Asked) (p:zb),(∀ a,a∈l→a.P.Kind=2)→∃ W,l.foldl zha (p,⟨false,false⟩,[])=({ p with Stake:={ p.Stake with Waits:=W } },⟨false,false⟩,[])
 | [],p,_=>⟨p.Stake.Waits,rfl⟩
 | a::l,p,h=>by
  have e:zha (p,⟨false,false⟩,[]) a=({ p with Stake:=zim p.Stake a.C a.P.Id },⟨false,false⟩,[]):=by
   have ed:zg9 p a=({ p with Stake:=zim p.Stake a.C a.P.Id },true):=by unfold zg9;rw[if_pos (h a (List.mem_cons_self ..))]
   have eg:(⟨false,false⟩:A2 Bool).get a.C=false:=by unfold A2.get;split<;>rfl
   unfold zha
   simp only[ed,eg]
   rfl
  obtain ⟨W,hW⟩:=zaal l { p with Stake:=zim p.Stake a.C a.P.Id } (fun b hb=>h b (List.mem_cons_of_mem _ hb))
  exact ⟨W,by rw[List.foldl_cons,e,hW];rfl⟩
theorem zae3 {p:zb} {now:Int} (h:zaa p=true∧p.Time≤now∧now≤1099511627776):(ze9 p now).1.Stake.Validators=(zbp p now).1.Stake.Validators:=by
 rw[(zin h).2.2.1,zanv (zub (now:=now) h.1).1.good]
theorem zaam {p:zb} {now:Int} (h:zaa p=true∧p.Time≤now∧now≤1099511627776):(ze9 p now).1.Stake.Waits=(zbp p now).1.Stake.Waits.filter (fun w => !z48 now w):=by
 rw[(zin h).2.2.1,z7o (zub (now:=now) h.1).1.good]
theorem ze2 {C:zc1} {i j:Int} (hj:0≤j∧j < 2) (hi:0≤i∧i < 2) (c:Consumer):(i=j∧za (zjh C j c) i=c)∨(i≠j∧za (zjh C j c) i=za C i):=by
 by_cases e:i=j
 ·exact .inl ⟨e,by rw[e];exact zap hj c⟩
 ·exact .inr ⟨e,z5 hj hi e c⟩
theorem z3i {now:Int}:∀ (l:List Packet) (c:Consumer),(l.foldl (znc now) c).Ripes=c.Ripes++l.map (fun p=>(⟨p.Id,i64.wrap (now+15)⟩:Ripe))
 | [],c=>by simp
 | p::l,c=>by
  rw[List.foldl_cons,z3i l,zr9]
  show (c.Ripes++[(⟨p.Id,i64.wrap (now+15)⟩:Ripe)])++_=_
  rw[List.append_assoc,List.map_cons];rfl
theorem zuu {w:Wld} (h:OkW w) (hd:w.deeds < 600) {i:Int} (hi:0≤i∧i < 2) (ho:(za w.consumers i).On=true) :
  ∃ (k:Nat) (R:List Ripe),R=(za w.consumers i).Ripes++(za w.consumers i).Pending.map (fun p=>(⟨p.Id,w.clock+15⟩:Ripe))∧k≤R.length ∧
   (zt9 w.clock (za w.consumers i)).1.Pending=[]∧(zt9 w.clock (za w.consumers i)).1.Ripes=R.drop k ∧
   (zt9 w.clock (za w.consumers i)).1.Out={ (za w.consumers i).Out with Said:=(za w.consumers i).Out.Said++(R.take k).map matT,Due:=(za w.consumers i).Out.Due++List.replicate k (w.clock+40) } ∧
   (zt9 w.clock (za w.consumers i)).1.On=true∧(zt9 w.clock (za w.consumers i)).1.Time=w.clock∧(∀ r,r∈R→zjd r=true) ∧
   (zt9 w.clock (za w.consumers i)).1.Set=zaaf (za w.consumers i).Set (za w.consumers i).Pending∧(zt9 w.clock (za w.consumers i)).1.Id=zag2 (za w.consumers i).Id (za w.consumers i).Pending ∧
   (∀ r,r∈R.take k→r.Due≤w.clock)∧(k=R.length∨(∃ r,R[k]?=some r∧w.clock < r.Due)∨(za w.consumers i).Out.Closed=true∨400≤(za w.consumers i).Out.Said.length+k):=by
 have hw:=h.c i hi
 have h0:=h.t0;have h1:=h.t1;have hh:=hw.height
 obtain ⟨e0,m,k,hm,hpm,hl,hk,hf,f1,f2,f3,f4,f5,f6,f7,f8,hg⟩:=zq3 hw.good ho ⟨hw.time,by omega⟩ (by omega)
 have hr:m.Ripes=(za w.consumers i).Ripes++(za w.consumers i).Pending.map (fun p=>(⟨p.Id,w.clock+15⟩:Ripe)):=by
  rw[hm,z3i]
  show (za w.consumers i).Ripes++(za w.consumers i).Pending.map (fun p=>(⟨p.Id,i64.wrap (w.clock+15)⟩:Ripe))=_
  rw[zj (by omega) (by omega)]
 obtain ⟨s1,s2⟩:=z3f (now:=w.clock) (za w.consumers i).Pending { za w.consumers i with Height:=(za w.consumers i).Height+1,Time:=w.clock }
 rw[← hm] at s1 s2
 refine ⟨k,m.Ripes,hr,hk,by rw[hf],by rw[hf],by rw[hf],by rw[hf];exact f1.trans ho,by rw[hf];exact f4,fun r hr'=>List.all_eq_true.1 hpm.ripes r hr',by rw[hf];exact s1,by rw[hf];exact s2,f6,f7⟩
structure OneI (w:Wld) (i:Int):Prop where
 o1:(zc w.p.Links i).Out.Closed=false
 o2:(za w.consumers i).Out.Closed=false
 n1:(((zc w.p.Links i).Out.Said.length:Nat):Int)≤w.p.Height
 rip:∀ r,r∈(za w.consumers i).Ripes→r.Due≤w.clock+15
theorem OneI.same {w w':Wld} {i:Int} (h:OneI w i) (e1:(zc w'.p.Links i).Out.Closed=(zc w.p.Links i).Out.Closed) (e2:(zc w'.p.Links i).Out.Said=(zc w.p.Links i).Out.Said) (e3:(za w'.consumers i).Out.Closed=(za w.consumers i).Out.Closed)
  (e4:(za w'.consumers i).Ripes=(za w.consumers i).Ripes) (e5:w.p.Height≤w'.p.Height) (e6:w.clock≤w'.clock):OneI w' i:=by
 obtain ⟨a1,a2,a3,a4⟩:=h
 exact ⟨by rw[e1];exact a1,by rw[e3];exact a2,by rw[e2];omega,fun r hr=>by rw[e4] at hr;have:=a4 r hr;omega⟩
structure OneW (w:Wld):Prop where
 one:∀ i:Int,0≤i∧i < 2→(za w.consumers i).On=true→OneI w i
 met:w.p.Meter.Next≤w.clock+10
theorem OneW.cons {w w':Wld} (h:OneW w) {j:Int} (hj:0≤j∧j < 2) {c:Consumer} (hc:w'.consumers=zjh w.consumers j c) (hon:(za w.consumers j).On=true)
  (hl:∀ i:Int,0≤i∧i < 2→(zc w'.p.Links i).Out.Closed=(zc w.p.Links i).Out.Closed∧(zc w'.p.Links i).Out.Said=(zc w.p.Links i).Out.Said)
  (h1:c.Out.Closed=(za w.consumers j).Out.Closed) (h2:∀ r,r∈c.Ripes→r.Due≤w.clock+15) (hH:w'.p.Height=w.p.Height) (hM:w'.p.Meter=w.p.Meter) (ht:w'.clock=w.clock):OneW w':=by
 refine ⟨fun i hi ho=>?_,by rw[hM,ht];exact h.met⟩
 rw[hc] at ho
 obtain ⟨l1,l2⟩:=hl i hi
 rcases ze2 (C:=w.consumers) hj hi c with ⟨e,ec⟩ | ⟨e,ec⟩
 ·subst e
  obtain ⟨a1,a2,a3,a4⟩:=h.one i hi hon
  exact ⟨by rw[l1];exact a1,by rw[hc,ec,h1];exact a2,by rw[l2,hH];exact a3,fun r hr=>by rw[hc,ec] at hr;rw[ht];exact h2 r hr⟩
 ·rw[ec] at ho
  exact (h.one i hi ho).same l1 l2 (by rw[hc,ec]) (by rw[hc,ec]) (by rw[hH];exact Int.le_refl _) (by rw[ht];exact Int.le_refl _)
theorem zaan:∀ (l:List Asked) (t:zb×A2 Bool×List Asked),(l.foldl zha t).1.Meter.Next=t.1.Meter.Next
 | [],_=>rfl
 | a::l,t=>by
  rw[List.foldl_cons,zaan l]
  have hd:(zg9 t.1 a).1.Meter.Next=t.1.Meter.Next:=by
   unfold zg9
   repeat' split
   ·rfl
   ·rfl
   ·rfl
   ·rfl
   ·show (zzi t.1.Meter (zsb t.1 a.P.V)).1.Next=_
    unfold zzi;split<;>rfl
   ·rfl
  unfold zha
  repeat' split
  ·rfl
  ·exact hd
  ·exact hd
theorem zan8 {w:Wld} (h:OkW w) (hm:w.p.Meter.Next≤w.clock+10):(zay w).p.Meter.Next≤w.clock+10:=by
 have hg:zaa w.p=true∧w.p.Time≤w.clock∧w.clock≤1099511627776:=⟨h.pr,h.pt,by have:=h.t1;omega⟩
 have e:(ze9 w.p w.clock).1.Meter=(zbp w.p w.clock).1.Meter:=by
  unfold ze9
  rw[if_pos hg]
  show (zdn (zdn (zmi w.p w.clock) 0 w.clock) 1 w.clock).Meter=_
  rw[(zq2 _ 1 w.clock).2.2.2.2.1,(zq2 _ 0 w.clock).2.2.2.2.1]
  rfl
 show (ze9 w.p w.clock).1.Meter.Next≤_
 rw[e]
 show (w.p.Queue.foldl zha (zhg w.p w.clock,⟨false,false⟩,[])).1.Meter.Next≤_
 rw[zaan]
 show (z4b w.p.Meter (allP w.p.Set) w.clock).Next≤_
 have:=h.t0;have:=h.t1
 unfold z4b newM
 split
 ·show i64.wrap (w.clock+10)≤_
  rw[zj (by omega) (by omega)];exact Int.le_refl _
 ·exact hm
theorem zasr:OneW newW:=by
 refine ⟨fun i hi ho=>?_,by decide⟩
 rcases (show i=0∨i=1 by omega) with rfl | rfl<;>cases ho
theorem zapg {w:Wld} (h:OkW w) (hd:w.deeds < 600) (ht:OneW w) (d:Deed):OneW (doW w d).1:=by
 have st:∀ s:Stake,OneW (zaad w s):=fun s=>⟨fun i hi ho=>(ht.one i hi ho).same rfl rfl rfl rfl (Int.le_refl _) (Int.le_refl _),ht.met⟩
 refine z06 h hd d (P:=fun w' r=>OneW w') ?_ ?_ ?_ ?_ ?_ ?_ ?_ ?_ ?_ ?_ ?_ ?_ ?_ ?_ ?_
 ·intro w' r a _
  refine ⟨fun i hi ho=>?_,by rw[a.p,a.t];exact ht.met⟩
  rw[a.c] at ho
  exact (ht.one i hi ho).same (by rw[a.p]) (by rw[a.p]) (by rw[a.c]) (by rw[a.c]) (by rw[a.p];exact Int.le_refl _) (by rw[a.t];exact Int.le_refl _)
 ·intro _ _;exact st _
 ·intro _ _;exact ⟨fun i hi ho=>(ht.one i hi ho).same rfl rfl rfl rfl (Int.le_refl _) (Int.le_refl _),ht.met⟩
 ·intro _ _;exact st _
 ·intro _ _ _ _;exact st _
 ·intro _ h1 _
  refine ⟨fun i hi ho=>(ht.one i hi ho).same rfl rfl rfl rfl (Int.le_refl _) (by show w.clock≤w.clock+d.N;omega),?_⟩
  have:=ht.met
  show w.p.Meter.Next≤w.clock+d.N+10;omega
 ·intro _
  refine ⟨fun i hi ho=>?_,zan8 h ht.met⟩
  have hg:zaa w.p=true∧w.p.Time≤w.clock∧w.clock≤1099511627776:=⟨h.pr,h.pt,by have:=h.t1;omega⟩
  obtain ⟨D',-,hD⟩:=zsd hg hi
  obtain ⟨r1,-⟩:=zin hg
  obtain ⟨a1,a2,a3,a4⟩:=ht.one i hi ho
  have ef:zd3 (ze9 w.p w.clock).1.Links i=(zc (zay w).p.Links i).Out:=rfl
  have eg:zd3 w.p.Links i=(zc w.p.Links i).Out:=rfl
  have eH:(zay w).p.Height=w.p.Height+1:=r1
  rcases hD with ⟨-,-,-,e4,-⟩ | ⟨-,-,-,-,e5,e6,-,-,e9⟩
  ·rw[ef,eg] at e4
   exact ⟨by rw[e4];exact a1,a2,by rw[e4,eH];omega,a4⟩
  ·rw[ef,eg] at e9
   refine ⟨by rw[e9];exact a1,a2,?_,a4⟩
   rw[e9,eH]
   simp only[yy6,yy5]
   omega
 ·intro _ hj _ _ h1 _
  refine ⟨fun i hi ho=>?_,ht.met⟩
  have el:zc (zsx w d.C).p.Links i=_:=zfb (L:=w.p.Links) (H:=w.p.Height) (T:=w.p.Set) (f:=zsq w.p) hj hi
  have ec:=ze2 (C:=w.consumers) hj hi (zje w.p.Set w.p.Height w.clock)
  rcases ec with ⟨e,ec⟩ | ⟨e,ec⟩
  ·rw[if_pos e] at el
   have ec:za (zsx w d.C).consumers i=zje w.p.Set w.p.Height w.clock:=ec
   refine ⟨by rw[el],by rw[ec];rfl,?_,fun r hr=>?_⟩
   ·rw[el]
    show ((0:Nat):Int)≤w.p.Height;omega
   ·rw[ec] at hr;cases hr
  ·rw[if_neg e] at el
   have ec:za (zsx w d.C).consumers i=za w.consumers i:=ec
   rw[ec] at ho
   exact (ht.one i hi ho).same (by rw[el]) (by rw[el]) (by rw[ec]) (by rw[ec]) (Int.le_refl _) (Int.le_refl _)
 ·intro _ hj ho
  obtain ⟨k,R,eR,hk,f1,f2,f3,f4,-⟩:=zuu h hd hj ho
  refine ht.cons hj (c:=(zt9 w.clock (za w.consumers d.C)).1) rfl ho (fun _ _=>⟨rfl,rfl⟩) (by rw[f3]) (fun r hr=>?_) rfl rfl rfl
  rw[f2,eR] at hr
  rcases List.mem_append.1 (List.mem_of_mem_drop hr) with hr | hr
  ·exact (ht.one d.C hj ho).rip r hr
  ·obtain ⟨p,_,rfl⟩:=List.mem_map.1 hr
   exact Int.le_refl _
 ·intro _ hj ho _
  have el:∀ i:Int,0≤i∧i < 2→(zc (zi5 w d.C).p.Links i).Out=(zc w.p.Links i).Out:=by
   intro i hi
   have:zc (zi5 w d.C).p.Links i=_:=zgv (L:=w.p.Links) hj hi (z4d w.heads d.C)
   rw[this];split<;>rfl
  exact ⟨fun i hi ho=>(ht.one i hi ho).same (by rw[el i hi]) (by rw[el i hi]) rfl rfl (Int.le_refl _) (Int.le_refl _),ht.met⟩
 ·intro _ hj ho _
  exact ht.cons hj rfl ho (fun _ _=>⟨rfl,rfl⟩) rfl (fun r hr=>(ht.one d.C hj ho).rip r hr) rfl rfl rfl
 ·intro q _ hj ho _ _ _
  exact ht.cons hj rfl ho (fun _ _=>⟨rfl,rfl⟩) rfl (fun r hr=>(ht.one d.C hj ho).rip r hr) rfl rfl rfl
 ·intro q _ hj ho _ _ _
  refine ht.cons hj rfl ho (fun i hi=>?_) rfl (fun r hr=>(ht.one d.C hj ho).rip r hr) rfl rfl rfl
  have el:zc (z05 w d.C q).p.Links i=_:=zhb (L:=w.p.Links) hj hi { (zc w.p.Links d.C).Out with Got:=(zc w.p.Links d.C).Out.Got+1 }
  rw[el]
  split
  ·rename_i e;rw[e];exact ⟨rfl,rfl⟩
  ·exact ⟨rfl,rfl⟩
 ·intro _ hj ho _
  refine ⟨fun i hi hoi=>?_,ht.met⟩
  rcases ze2 (C:=w.consumers) hj hi { za w.consumers d.C with On:=false,Gone:=true,Out:={ (za w.consumers d.C).Out with Closed:=true } } with ⟨e,ec⟩ | ⟨e,ec⟩
  ·have ec:za (zq4 w d.C).consumers i=_:=ec
   rw[ec] at hoi;cases hoi
  ·have ec:za (zq4 w d.C).consumers i=_:=ec
   have el:zc (zq4 w d.C).p.Links i=_:=zed (L:=w.p.Links) hj hi
   rw[if_neg e] at el
   rw[ec] at hoi
   exact (ht.one i hi hoi).same (by rw[el]) (by rw[el]) (by rw[ec]) (by rw[ec]) (Int.le_refl _) (Int.le_refl _)
 ·intro q f _ hj ho _ _ _ _
  exact ht.cons hj rfl ho (fun _ _=>⟨rfl,rfl⟩) rfl (fun r hr=>(ht.one d.C hj ho).rip r hr) rfl rfl rfl
def Wit (w:Wld) (i h:Int):Prop :=
 ((zc w.p.Links i).Fresh=true∧h≤w.p.Height+1) ∨
 (∃ q,(q∈(za w.consumers i).Pending∨zcs q=0∧pkT q∈(zc w.p.Links i).Out.Said.drop (zc w.p.Links i).Out.Got.toNat)∧h≤q.Id) ∨
 (∃ r,r∈(za w.consumers i).Ripes∧h≤r.Id) ∨
 (∃ q,zcs q=0∧q.Kind=2∧pkT q∈(za w.consumers i).Out.Said.drop (za w.consumers i).Out.Got.toNat∧h≤q.Id) ∨
 (∃ a,a∈w.p.Queue∧a.C=i∧a.P.Kind=2∧h≤a.P.Id)
theorem Wit.mono {w w':Wld} {i h:Int} (k:Wit w i h) (f:(zc w.p.Links i).Fresh=true→(zc w'.p.Links i).Fresh=true) (H:w.p.Height≤w'.p.Height)
  (P:∀ q,q∈(za w.consumers i).Pending→q∈(za w'.consumers i).Pending)
  (S:∀ s,s∈(zc w.p.Links i).Out.Said.drop (zc w.p.Links i).Out.Got.toNat→s∈(zc w'.p.Links i).Out.Said.drop (zc w'.p.Links i).Out.Got.toNat)
  (R:∀ r,r∈(za w.consumers i).Ripes→r∈(za w'.consumers i).Ripes)
  (B:∀ s,s∈(za w.consumers i).Out.Said.drop (za w.consumers i).Out.Got.toNat→s∈(za w'.consumers i).Out.Said.drop (za w'.consumers i).Out.Got.toNat)
  (Q:∀ a,a∈w.p.Queue→a.C=i→a∈w'.p.Queue):Wit w' i h:=by
 rcases k with ⟨k1,k2⟩ | ⟨q,k1,k2⟩ | ⟨r,k1,k2⟩ | ⟨q,k0,k1,k2,k3⟩ | ⟨a,k0,k1,k2,k3⟩
 ·exact .inl ⟨f k1,by omega⟩
 ·refine .inr (.inl ⟨q,?_,k2⟩)
  rcases k1 with k1 | ⟨k1,k3⟩
  ·exact .inl (P q k1)
  ·exact .inr ⟨k1,S _ k3⟩
 ·exact .inr (.inr (.inl ⟨r,R r k1,k2⟩))
 ·exact .inr (.inr (.inr (.inl ⟨q,k0,k1,B _ k2,k3⟩)))
 ·exact .inr (.inr (.inr (.inr ⟨a,Q a k0 k1,k1,k2,k3⟩)))
structure za2n (w:Wld) (x:Wait):Prop where
 due:x.Due≤w.clock+20
 height:x.Height≤w.p.Height+1
 top:∀ i:Int,0≤i∧i < 2→0≤hN x i∧hN x i≤w.p.Height+1
 hold:∀ i:Int,0≤i∧i < 2→0 < hN x i→(za w.consumers i).On=true∧Wit w i (hN x i)
def HoldW (w:Wld):Prop:=∀ x,x∈w.p.Stake.Waits→za2n w x
theorem zan9:HoldW newW:=fun x hx=>by cases hx
theorem HoldW.keep {w w':Wld} (h:HoldW w) (hp:0≤w.p.Height) (hW:NearW w.p.Stake.Waits w'.p.Stake.Waits) (hH:w'.p.Height=w.p.Height) (ht:w.clock≤w'.clock)
  (hk:∀ i n:Int,0≤i∧i < 2→(za w.consumers i).On=true→Wit w i n→(za w'.consumers i).On=true∧Wit w' i n):HoldW w':=by
 intro x hx
 obtain ⟨y,hy,n⟩:=hW x hx
 obtain ⟨a1,a2,a3,a4⟩:=h y hy
 refine ⟨by rw[n.due];omega,by rw[n.height,hH];exact a2,fun i hi=>?_,fun i hi h0=>?_⟩
 ·rw[hH]
  rcases n.hold i hi with e | e
  ·rw[e];exact a3 i hi
  ·rw[e];omega
 ·rcases n.hold i hi with e | e
  ·rw[e] at h0 ⊢
   obtain ⟨k1,k2⟩:=a4 i hi h0
   exact hk i _ hi k1 k2
  ·omega
theorem zue {α:Type} {l m:List α} {n:Nat} {x:α} (h:x∈l.drop n):x∈(l++m).drop n:=by
 rw[List.drop_append];exact List.mem_append_left _ h
theorem zyk {l:List ByteArray} {n:Nat} (h:n < l.length) {s:ByteArray} (hs:s∈l.drop n):s=l.getD n .empty∨s∈l.drop (n+1):=by
 rw[zau h .empty] at hs
 rcases List.mem_cons.1 hs with e | e
 ·exact .inl e
 ·exact .inr e
theorem zae4 {c H:Int} {x:Wait} {i:Int} (hi:0≤i∧i < 2):hN (zeg c H x) i=if H < x.Height∧c=i then x.Height else hN x i:=by
 unfold zeg
 by_cases e:H < x.Height
 ·rw[if_pos e]
  rcases (show i=0∨i=1 by omega) with rfl | rfl
  ·show (if c=0 then x.Height else x.h0)=_
   by_cases k:c=0
   ·rw[if_pos k,if_pos ⟨e,k⟩]
   ·rw[if_neg k,if_neg (fun z=>k z.2)];rfl
  ·show (if c=1 then x.Height else x.h1)=_
   by_cases k:c=1
   ·rw[if_pos k,if_pos ⟨e,k⟩]
   ·rw[if_neg k,if_neg (fun z=>k z.2)];rfl
 ·rw[if_neg e,if_neg (fun z=>e z.1)]
theorem HoldW.one {w w':Wld} (h:OkW w) (hh:HoldW w) {j:Int} (hj:0≤j∧j < 2) (hW:w'.p.Stake.Waits=w.p.Stake.Waits) (hH:w'.p.Height=w.p.Height) (ht:w'.clock=w.clock)
  (hl:∀ i:Int,0≤i∧i < 2→i≠j→zc w'.p.Links i=zc w.p.Links i∧za w'.consumers i=za w.consumers i) (hQ:∀ a,a∈w.p.Queue→a∈w'.p.Queue)
  (hon:(za w'.consumers j).On=(za w.consumers j).On) (hk:∀ n:Int,Wit w j n→Wit w' j n):HoldW w':=by
 refine hh.keep h.p.2.1.1 (by rw[hW];exact .refl _) hH (by rw[ht];exact Int.le_refl _) fun i n hi ho k=>?_
 by_cases e:i=j
 ·subst e;exact ⟨hon.trans ho,hk n k⟩
 ·obtain ⟨e1,e2⟩:=hl i hi e
  exact ⟨by rw[e2];exact ho,k.mono (by rw[e1];exact id) (by rw[hH];exact Int.le_refl _) (by rw[e2];exact fun _ h=>h) (by rw[e1];exact fun _ h=>h) (by rw[e2];exact fun _ h=>h) (by rw[e2];exact fun _ h=>h) (fun a ha _=>hQ a ha)⟩
theorem zag9 {w:Wld} (h:OkW w) (h4:w.p.Height < 399) (ht:OneW w) (hh:HoldW w):HoldW (zay w):=by
 have hg:zaa w.p=true∧w.p.Time≤w.clock∧w.clock≤1099511627776:=⟨h.pr,h.pt,by have:=h.t1;omega⟩
 obtain ⟨r1,r2,r3,r4,r5,-⟩:=zin hg
 have eH:(zay w).p.Height=w.p.Height+1:=r1
 have eQ:(zay w).p.Queue=(zbp w.p w.clock).2.2:=r5
 have eW:(zay w).p.Stake.Waits=(zbp w.p w.clock).1.Stake.Waits.filter (fun x => !z48 w.clock x):=zaam hg
 have hn:NearW w.p.Stake.Waits (zbp w.p w.clock).1.Stake.Waits:=(zut w.p.Queue (zhg w.p w.clock,⟨false,false⟩,[])).2
 have hf:∀ a,a∈w.p.Queue→a.P.Kind=2→a∈(zbp w.p w.clock).2.2∨Freed (zbp w.p w.clock).1.Stake.Waits a.C a.P.Id:=z5n w.p.Queue (zhg w.p w.clock,⟨false,false⟩,[]) (fun a ha=>(z7r h.pr a ha).2)
 have hH0:=h.p.2.1.1
 intro x hx
 rw[eW] at hx
 have hx:=(List.mem_filter.1 hx).1
 obtain ⟨y,hy,n⟩:=hn x hx
 obtain ⟨a1,a2,a3,a4⟩:=hh y hy
 refine ⟨by rw[n.due];exact a1,by rw[n.height,eH];omega,fun i hi=>?_,fun i hi h0=>?_⟩
 ·rw[eH]
  rcases n.hold i hi with e | e
  ·rw[e];have:=a3 i hi;omega
  ·rw[e];omega
 ·have e:hN x i=hN y i:=by
   rcases n.hold i hi with e | e
   ·exact e
   ·omega
  obtain ⟨ho,k⟩:=a4 i hi (by omega)
  refine ⟨ho,?_⟩
  obtain ⟨b1,b2,b3,-⟩:=ht.one i hi ho
  obtain ⟨D',-,hD⟩:=zsd hg hi
  have ef:zd3 (ze9 w.p w.clock).1.Links i=(zc (zay w).p.Links i).Out:=rfl
  have eg:zd3 w.p.Links i=(zc w.p.Links i).Out:=rfl
  have eF:(ze9 w.p w.clock).1.Links.Fresh.get i=(zc (zay w).p.Links i).Fresh:=rfl
  have eG:w.p.Links.Fresh.get i=(zc w.p.Links i).Fresh:=rfl
  have eO:w.p.Links.On.get i=true:=by rw[← (h.c i hi).on];exact ho
  rw[ef,eg,eG,eO] at hD
  have gotL:(zc w.p.Links i).Out.Got.toNat≤(zc w.p.Links i).Out.Said.length:=by
   have gl:=(h.p.lk hi).line
   have g2:(zc w.p.Links i).Out.Got≤(((zc w.p.Links i).Out.Said.length:Nat):Int):=gl.2.2.2.1
   omega
  have hway:∀ s,s∈(zc w.p.Links i).Out.Said.drop (zc w.p.Links i).Out.Got.toNat→s∈(zc (zay w).p.Links i).Out.Said.drop (zc (zay w).p.Links i).Out.Got.toNat:=by
   intro s hs
   rcases hD with ⟨-,-,-,e4,-⟩ | ⟨-,-,-,-,-,-,-,-,e9⟩
   ·rw[e4];exact hs
   ·rw[e9];exact zue hs
  rcases k with ⟨k1,k2⟩ | ⟨q,k1,k2⟩ | ⟨r,k1,k2⟩ | ⟨q,k0,k1,k2,k3⟩ | ⟨a,k0,k1,k2,k3⟩
  ·rcases hD with ⟨-,-,-,e4,e5⟩ | ⟨-,-,-,-,-,-,-,e8,e9⟩
   ·rcases e5 with e5 | e5 | e5 | e5
    ·cases e5
    ·rw[k1] at e5;cases e5.2.2
    ·rw[b1] at e5;cases e5
    ·omega
   ·refine .inr (.inl ⟨_,.inr ⟨e8,?_⟩,?_⟩)
    ·rw[e9]
     show _∈((zc w.p.Links i).Out.Said++[_]).drop _
     rw[zaai gotL]
     exact List.mem_append_right _ (List.mem_singleton.2 rfl)
    ·show hN x i≤(ze9 w.p w.clock).1.Height
     rw[r1,e];exact k2
  ·refine .inr (.inl ⟨q,?_,by rw[e];exact k2⟩)
   rcases k1 with k1 | ⟨k1,k3⟩
   ·exact .inl k1
   ·exact .inr ⟨k1,hway _ k3⟩
  ·exact .inr (.inr (.inl ⟨r,k1,by rw[e];exact k2⟩))
  ·exact .inr (.inr (.inr (.inl ⟨q,k0,k1,k2,by rw[e];exact k3⟩)))
  ·rcases hf a k0 k2 with z | z
   ·exact .inr (.inr (.inr (.inr ⟨a,by rw[eQ];exact z,k1,k2,by rw[e];exact k3⟩)))
   ·rw[k1] at z
    rcases z x hx with z | z
    ·omega
    ·omega
theorem zakw {w:Wld} (h:OkW w) (hd:w.deeds < 600) (h4:w.p.Height < 399) (ht:OneW w) (hh:HoldW w) (d:Deed):HoldW (doW w d).1:=by
 have h0:=h.p.2.1.1
 have st:∀ s:Stake,NearW w.p.Stake.Waits s.Waits→HoldW (zaad w s):=fun s n=>hh.keep h0 n rfl (Int.le_refl _) (fun i n hi ho k=>⟨ho,k.mono id (Int.le_refl _) (fun _ h=>h) (fun _ h=>h) (fun _ h=>h) (fun _ h=>h) (fun _ h _=>h)⟩)
 refine z06 h hd d (P:=fun w' r=>HoldW w') ?_ ?_ ?_ ?_ ?_ ?_ ?_ ?_ ?_ ?_ ?_ ?_ ?_ ?_ ?_
 ·intro w' r a _
  exact hh.keep h0 (by rw[a.p];exact .refl _) (by rw[a.p]) (by rw[a.t];exact Int.le_refl _) (fun i n hi ho k=>⟨by rw[a.c];exact ho,k.mono (by rw[a.p];exact id) (by rw[a.p];exact Int.le_refl _) (by rw[a.c];exact fun _ h=>h) (by rw[a.p];exact fun _ h=>h) (by rw[a.c];exact fun _ h=>h) (by rw[a.c];exact fun _ h=>h) (by rw[a.p];exact fun _ h _=>h)⟩)
 ·intro _ _;exact st _ (by rw[z4f];exact .refl _)
 ·intro _ k0
  obtain ⟨_,_,_,_,_,_,_,_,_,e⟩:=zyb k0
  rw[e]
  have hk:∀ i n:Int,0≤i∧i < 2→(za w.consumers i).On=true→Wit w i n→Wit (zape w (subS w.p.Stake (zcc w.p.Stake.Bank 4 5 (zhr w.p.Stake d.V d.N)).1 d.D d.V (zhr w.p.Stake d.V d.N) d.N (z0o w.p w.clock))) i n:=by
   intro i n hi ho k
   refine k.mono (fun f=>?_) (Int.le_refl _) (fun _ h=>h) (fun _ h=>h) (fun _ h=>h) (fun _ h=>h) (fun _ h _=>h)
   rcases (show i=0∨i=1 by omega) with rfl | rfl
   ·show (w.p.Links.Fresh.x0||w.p.Links.On.x0)=true
    have f:w.p.Links.Fresh.x0=true:=f
    rw[f];rfl
   ·show (w.p.Links.Fresh.x1||w.p.Links.On.x1)=true
    have f:w.p.Links.Fresh.x1=true:=f
    rw[f];rfl
  intro x hx
  have hx:x∈w.p.Stake.Waits++[_]:=hx
  rcases List.mem_append.1 hx with hx | hx
  ·obtain ⟨a1,a2,a3,a4⟩:=hh x hx
   exact ⟨a1,a2,a3,fun i hi hp=>⟨(a4 i hi hp).1,hk i _ hi (a4 i hi hp).1 (a4 i hi hp).2⟩⟩
  ·have hx:=List.mem_singleton.1 hx
   subst hx
   refine ⟨Int.le_refl _,Int.le_refl _,fun i hi=>?_,fun i hi hp=>?_⟩
   ·rcases (show i=0∨i=1 by omega) with rfl | rfl
    ·show 0≤(if w.p.Links.On.x0=true then w.p.Height+1 else 0)∧(if w.p.Links.On.x0=true then w.p.Height+1 else 0)≤w.p.Height+1
     split<;>omega
    ·show 0≤(if w.p.Links.On.x1=true then w.p.Height+1 else 0)∧(if w.p.Links.On.x1=true then w.p.Height+1 else 0)≤w.p.Height+1
     split<;>omega
   ·have on:w.p.Links.On.get i=true:=by
     rcases (show i=0∨i=1 by omega) with rfl | rfl
     ·have hp:0 < (if w.p.Links.On.x0=true then w.p.Height+1 else 0):=hp
      split at hp
      ·assumption
      ·omega
     ·have hp:0 < (if w.p.Links.On.x1=true then w.p.Height+1 else 0):=hp
      split at hp
      ·assumption
      ·omega
    refine ⟨by show (za w.consumers i).On=true;rw[(h.c i hi).on];exact on,.inl ⟨?_,?_⟩⟩
    ·rcases (show i=0∨i=1 by omega) with rfl | rfl
     ·show (w.p.Links.Fresh.x0||w.p.Links.On.x0)=true
      have on:w.p.Links.On.x0=true:=on
      rw[on,Bool.or_true]
     ·show (w.p.Links.Fresh.x1||w.p.Links.On.x1)=true
      have on:w.p.Links.On.x1=true:=on
      rw[on,Bool.or_true]
    ·rcases (show i=0∨i=1 by omega) with rfl | rfl
     ·show (if w.p.Links.On.x0=true then w.p.Height+1 else 0)≤w.p.Height+1
      split<;>omega
     ·show (if w.p.Links.On.x1=true then w.p.Height+1 else 0)≤w.p.Height+1
      split<;>omega
 ·intro _ _;exact st _ (by rw[zsf];exact .refl _)
 ·intro _ _ _ _;exact st _ (by rw[zsf];exact z5m _ _ _ _)
 ·intro _ h1 _
  exact hh.keep h0 (.refl _) rfl (by show w.clock≤w.clock+d.N;omega) (fun i n hi ho k=>⟨ho,k.mono id (Int.le_refl _) (fun _ h=>h) (fun _ h=>h) (fun _ h=>h) (fun _ h=>h) (fun _ h _=>h)⟩)
 ·intro _;exact zag9 h h4 ht hh
 ·intro _ hj _ hon _ _
  intro x hx
  have hx:x∈w.p.Stake.Waits.map (zeg d.C w.p.Height):=hx
  obtain ⟨y,hy,rfl⟩:=List.mem_map.1 hx
  obtain ⟨a1,a2,a3,a4⟩:=hh y hy
  have ed:(zeg d.C w.p.Height y).Due=y.Due:=by unfold zeg;split<;>rfl
  have eh:(zeg d.C w.p.Height y).Height=y.Height:=by unfold zeg;split<;>rfl
  refine ⟨by rw[ed];exact a1,by rw[eh];exact a2,fun i hi=>?_,fun i hi hp=>?_⟩
  ·rw[zae4 hi]
   split
   ·rename_i z;have z2:y.Height≤w.p.Height+1:=a2;exact ⟨by omega,a2⟩
   ·exact a3 i hi
  ·have el:zc (zsx w d.C).p.Links i=_:=zfb (L:=w.p.Links) (H:=w.p.Height) (T:=w.p.Set) (f:=zsq w.p) hj hi
   have off:(za w.consumers d.C).On=false:=by rw[(h.c d.C hj).on];exact hon
   rw[zae4 hi] at hp ⊢
   rcases ze2 (C:=w.consumers) hj hi (zje w.p.Set w.p.Height w.clock) with ⟨e,ec⟩ | ⟨e,ec⟩
   ·have ec:za (zsx w d.C).consumers i=zje w.p.Set w.p.Height w.clock:=ec
    rw[if_pos e] at el
    by_cases k:w.p.Height < y.Height
    ·rw[if_pos ⟨k,e.symm⟩]
     refine ⟨by rw[ec];rfl,.inl ⟨?_,a2⟩⟩
     rw[el]
     show zsq w.p=true
     unfold zsq
     exact List.any_eq_true.2 ⟨y,hy,by simpa using k⟩
    ·rw[if_neg (fun z=>k z.1)] at hp
     have:=(a4 i hi hp).1
     rw[e,off] at this;cases this
   ·have ec:za (zsx w d.C).consumers i=za w.consumers i:=ec
    rw[if_neg e] at el
    rw[if_neg (fun z=>e z.2.symm)] at hp ⊢
    obtain ⟨k1,k2⟩:=a4 i hi hp
    exact ⟨by rw[ec];exact k1,k2.mono (by rw[el];exact id) (Int.le_refl _) (by rw[ec];exact fun _ h=>h) (by rw[el];exact fun _ h=>h) (by rw[ec];exact fun _ h=>h) (by rw[ec];exact fun _ h=>h) (fun _ h _=>h)⟩
 ·intro _ hj ho
  obtain ⟨k,R,eR,hk,f1,f2,f3,f4,f5,f6,-⟩:=zuu h hd hj ho
  have ec:za (zba w d.C).consumers d.C=(zt9 w.clock (za w.consumers d.C)).1:=zap hj _
  refine HoldW.one h hh hj rfl rfl rfl (fun i hi e=>⟨rfl,z5 hj hi e _⟩) (fun _ h=>h) (by rw[ec,f4,ho]) fun n K=>?_
  have rip:∀ r,r∈R→n≤r.Id→Wit (zba w d.C) d.C n:=by
   intro r hr hn
   rw[← List.take_append_drop k R] at hr
   rcases List.mem_append.1 hr with hr' | hr'
   ·refine .inr (.inr (.inr (.inl ⟨matP r,zyi (f6 r (List.mem_of_mem_take hr')),rfl,?_,hn⟩)))
    rw[ec,f3]
    show pkT (matP r)∈((za w.consumers d.C).Out.Said++(R.take k).map matT).drop (za w.consumers d.C).Out.Got.toNat
    have gl:=(zas (h.c d.C hj).good).2.1
    have g1:=gl.2.2.1;have g2:=gl.2.2.2.1
    rw[List.drop_append_of_le_length (by omega)]
    exact List.mem_append_right _ (List.mem_map.2 ⟨r,hr',rfl⟩)
   ·exact .inr (.inr (.inl ⟨r,by rw[ec,f2];exact hr',hn⟩))
  rcases K with ⟨k1,k2⟩ | ⟨q,k1,k2⟩ | ⟨r,k1,k2⟩ | ⟨q,k0,k1,k2,k3⟩ | ⟨a,k0,k1,k2,k3⟩
  ·exact .inl ⟨k1,k2⟩
  ·rcases k1 with k1 | k1
   ·exact rip ⟨q.Id,w.clock+15⟩ (by rw[eR];exact List.mem_append_right _ (List.mem_map.2 ⟨q,k1,rfl⟩)) k2
   ·exact .inr (.inl ⟨q,.inr k1,k2⟩)
  ·exact rip r (by rw[eR];exact List.mem_append_left _ k1) k2
  ·refine .inr (.inr (.inr (.inl ⟨q,k0,k1,?_,k3⟩)))
   rw[ec,f3];exact zue k2
  ·exact .inr (.inr (.inr (.inr ⟨a,k0,k1,k2,k3⟩)))
 ·intro _ hj ho _
  have el:∀ i:Int,0≤i∧i < 2→(zc (zi5 w d.C).p.Links i).Out=(zc w.p.Links i).Out∧(zc (zi5 w d.C).p.Links i).Fresh=(zc w.p.Links i).Fresh:=by
   intro i hi
   have:zc (zi5 w d.C).p.Links i=_:=zgv (L:=w.p.Links) hj hi (z4d w.heads d.C)
   rw[this];split<;>exact ⟨rfl,rfl⟩
  exact hh.keep h0 (.refl _) rfl (Int.le_refl _) (fun i n hi ho k=>⟨ho,k.mono (by rw[(el i hi).2];exact id) (Int.le_refl _) (fun _ h=>h) (by rw[(el i hi).1];exact fun _ h=>h) (fun _ h=>h) (fun _ h=>h) (fun _ h _=>h)⟩)
 ·intro _ hj ho _
  have ec:za (zjh w.consumers d.C { za w.consumers d.C with Seen:=zyg w.heads d.C }) d.C=_:=zap hj _
  refine HoldW.one h hh hj rfl rfl rfl (fun i hi e=>⟨rfl,z5 hj hi e _⟩) (fun _ h=>h) (by have z:=congrArg Consumer.On ec;exact z) fun n K=>?_
  refine K.mono id (Int.le_refl _) ?_ (fun _ h=>h) ?_ ?_ (fun _ h _=>h)
  all_goals
   show ∀ q,q∈_→q∈_
   intro q hq
   show q∈_
   first | (show q∈(za (zjh w.consumers d.C { za w.consumers d.C with Seen:=zyg w.heads d.C }) d.C).Pending;rw[ec];exact hq) | (show q∈(za (zjh w.consumers d.C { za w.consumers d.C with Seen:=zyg w.heads d.C }) d.C).Ripes;rw[ec];exact hq) | (show q∈(za (zjh w.consumers d.C { za w.consumers d.C with Seen:=zyg w.heads d.C }) d.C).Out.Said.drop (za (zjh w.consumers d.C { za w.consumers d.C with Seen:=zyg w.heads d.C }) d.C).Out.Got.toNat;rw[ec];exact hq)
 ·intro q _ hj ho _ hcm hq1
  obtain ⟨g1,g2,g3,g4,g5,g6,g7⟩:=hcm
  have ec:za (gotB w d.C q).consumers d.C=_:=zap hj _
  refine HoldW.one h hh hj rfl rfl rfl (fun i hi e=>⟨rfl,z5 hj hi e _⟩) (fun _ h=>List.mem_append_left _ h) (by have z:=congrArg Consumer.On ec;exact z) fun n K=>?_
  rcases K with ⟨k1,k2⟩ | ⟨p,k1,k2⟩ | ⟨r,k1,k2⟩ | ⟨p,k0,k1,k2,k3⟩ | ⟨a,k0,k1,k2,k3⟩
  ·exact .inl ⟨k1,k2⟩
  ·refine .inr (.inl ⟨p,?_,k2⟩)
   rcases k1 with k1 | k1
   ·left;rw[ec];exact k1
   ·exact .inr k1
  ·exact .inr (.inr (.inl ⟨r,by rw[ec];exact k1,k2⟩))
  ·have gp:0≤(za w.consumers d.C).Out.Got:=g1.2.2.1
   have g3:(za w.consumers d.C).Out.Got.toNat < (za w.consumers d.C).Out.Said.length:=g3
   have g5:(za w.consumers d.C).Out.Said.getD (za w.consumers d.C).Out.Got.toNat .empty=pkT q:=g5
   rcases zyk g3 k2 with e | e
   ·rw[g5] at e
    have e:=z7v k0 g7 e
    subst e
    exact .inr (.inr (.inr (.inr ⟨⟨d.C,p⟩,List.mem_append_right _ (List.mem_singleton.2 rfl),rfl,k1,k3⟩)))
   ·refine .inr (.inr (.inr (.inl ⟨p,k0,k1,?_,k3⟩)))
    rw[ec]
    show pkT p∈(za w.consumers d.C).Out.Said.drop ((za w.consumers d.C).Out.Got+1).toNat
    rw[show ((za w.consumers d.C).Out.Got+1).toNat=(za w.consumers d.C).Out.Got.toNat+1 by omega]
    exact e
  ·exact .inr (.inr (.inr (.inr ⟨a,List.mem_append_left _ k0,k1,k2,k3⟩)))
 ·intro q _ hj ho _ hcm hq1
  obtain ⟨g1,g2,g3,g4,g5,g6,g7⟩:=hcm
  have ec:za (z05 w d.C q).consumers d.C=_:=zap hj _
  have el:∀ i:Int,0≤i∧i < 2→zc (z05 w d.C q).p.Links i=_:=fun i hi=>zhb (L:=w.p.Links) hj hi { (zc w.p.Links d.C).Out with Got:=(zc w.p.Links d.C).Out.Got+1 }
  have ed:=el d.C hj
  rw[if_pos rfl] at ed
  refine HoldW.one h hh hj rfl rfl rfl (fun i hi e=>⟨by rw[el i hi,if_neg e],z5 hj hi e _⟩) (fun _ h=>h) (by have z:=congrArg Consumer.On ec;exact z) fun n K=>?_
  rcases K with ⟨k1,k2⟩ | ⟨p,k1,k2⟩ | ⟨r,k1,k2⟩ | ⟨p,k0,k1,k2,k3⟩ | ⟨a,k0,k1,k2,k3⟩
  ·exact .inl ⟨by rw[ed];exact k1,k2⟩
  ·have gp:0≤(zc w.p.Links d.C).Out.Got:=g1.2.2.1
   have g3:(zc w.p.Links d.C).Out.Got.toNat < (zc w.p.Links d.C).Out.Said.length:=g3
   have g5:(zc w.p.Links d.C).Out.Said.getD (zc w.p.Links d.C).Out.Got.toNat .empty=pkT q:=g5
   refine .inr (.inl ⟨p,?_,k2⟩)
   rcases k1 with k1 | ⟨k0,k1⟩
   ·left;rw[ec];exact List.mem_append_left _ k1
   ·rcases zyk g3 k1 with e | e
    ·rw[g5] at e
     have e:=z7v k0 g7 e
     subst e
     left;rw[ec];exact List.mem_append_right _ (List.mem_singleton.2 rfl)
    ·refine .inr ⟨k0,?_⟩
     rw[ed]
     show pkT p∈(zc w.p.Links d.C).Out.Said.drop ((zc w.p.Links d.C).Out.Got+1).toNat
     rw[show ((zc w.p.Links d.C).Out.Got+1).toNat=(zc w.p.Links d.C).Out.Got.toNat+1 by omega]
     exact e
  ·exact .inr (.inr (.inl ⟨r,by rw[ec];exact k1,k2⟩))
  ·exact .inr (.inr (.inr (.inl ⟨p,k0,k1,by rw[ec];exact k2,k3⟩)))
  ·exact .inr (.inr (.inr (.inr ⟨a,k0,k1,k2,k3⟩)))
 ·intro _ hj ho _
  have hd1:=h.ph;have hd2:=h.d1
  intro x hx
  have hx:x∈w.p.Stake.Waits.map (z9i d.C 1099511627776):=hx
  obtain ⟨y,hy,rfl⟩:=List.mem_map.1 hx
  obtain ⟨a1,a2,a3,a4⟩:=hh y hy
  refine ⟨a1,a2,fun i hi=>?_,fun i hi hp=>?_⟩
  ·rw[zae0 hi]
   show 0≤(if d.C=i∧hN y i≤1099511627776 then 0 else hN y i)∧(if d.C=i∧hN y i≤1099511627776 then 0 else hN y i)≤w.p.Height+1
   split
   ·omega
   ·exact a3 i hi
  ·rw[zae0 hi] at hp ⊢
   by_cases e:i=d.C
   ·have:=a3 i hi
    rw[if_pos ⟨e.symm,by omega⟩] at hp;omega
   ·rw[if_neg (fun z=>e z.1.symm)] at hp ⊢
    obtain ⟨k1,k2⟩:=a4 i hi hp
    have ec:za (zq4 w d.C).consumers i=za w.consumers i:=z5 hj hi e _
    have el:zc (zq4 w d.C).p.Links i=_:=zed (L:=w.p.Links) hj hi
    rw[if_neg e] at el
    refine ⟨by rw[ec];exact k1,k2.mono (by rw[el];exact id) (Int.le_refl _) (by rw[ec];exact fun _ h=>h) (by rw[el];exact fun _ h=>h) (by rw[ec];exact fun _ h=>h) (by rw[ec];exact fun _ h=>h) (fun a ha hc=>?_)⟩
    refine List.mem_filter.2 ⟨ha,?_⟩
    unfold zz9
    rw[hc];simpa using e
 ·intro q f _ hj ho _ _ _ _
  have ec:za (z0q w d.C (zaae w d.C q f)).consumers d.C=_:=zap hj _
  refine HoldW.one h hh hj rfl rfl rfl (fun i hi e=>⟨rfl,z5 hj hi e _⟩) (fun _ h=>h) (by have z:=congrArg Consumer.On ec;exact z) fun n K=>?_
  rcases K with ⟨k1,k2⟩ | ⟨p,k1,k2⟩ | ⟨r,k1,k2⟩ | ⟨p,k0,k1,k2,k3⟩ | ⟨a,k0,k1,k2,k3⟩
  ·exact .inl ⟨k1,k2⟩
  ·refine .inr (.inl ⟨p,?_,k2⟩)
   rcases k1 with k1 | k1
   ·left;rw[ec];exact k1
   ·exact .inr k1
  ·exact .inr (.inr (.inl ⟨r,by rw[ec];exact k1,k2⟩))
  ·exact .inr (.inr (.inr (.inl ⟨p,k0,k1,by rw[ec];exact zue k2,k3⟩)))
  ·exact .inr (.inr (.inr (.inr ⟨a,k0,k1,k2,k3⟩)))
def zke (w:Wld) (i:Int):Int:=(((zc w.p.Links i).Out.Said.length:Nat):Int) - (zc w.p.Links i).Out.Got
def sdN (w:Wld) (i:Int):Int:=(((za w.consumers i).Out.Said.length:Nat):Int)
def zl2 (w:Wld) (i:Int):Int:=sdN w i - (za w.consumers i).Out.Got
def zig (w:Wld) (i:Int):Int:=(((za w.consumers i).Pending.length+(za w.consumers i).Ripes.length:Nat):Int)
def zq6 (w:Wld) (i:Int):Int:=sdN w i+zig w i+zke w i
def zoz (w:Wld) (i:Int):Int:=if (za w.consumers i).On=true then 2*zke w i+zig w i+zl2 w i+2 else 0
theorem zae5 {w:Wld} (h:OkW w) {i:Int} (hi:0≤i∧i < 2):0≤zke w i:=by
 have gl:=(h.p.lk hi).line
 have g2:(zc w.p.Links i).Out.Got≤(((zc w.p.Links i).Out.Said.length:Nat):Int):=gl.2.2.2.1
 unfold zke;omega
theorem zakx {w:Wld} (h:OkW w) {i:Int} (hi:0≤i∧i < 2):0≤zl2 w i:=by
 have g2:=(zas (h.c i hi).good).2.1.2.2.2.1
 unfold zl2 sdN;omega
theorem zaky {w:Wld} (h:OkW w) {i:Int} (hi:0≤i∧i < 2):0≤zoz w i:=by
 have h1:=zae5 h hi;have h2:=zakx h hi
 unfold zoz
 split
 ·unfold zig;omega
 ·omega
structure Meas (w w':Wld) (i a b:Int):Prop where
 cnt:(za w'.consumers i).On=true→zq6 w' i≤(if (za w.consumers i).On=true then zq6 w i else 0)+a
 phi:zoz w' i≤zoz w i+b
theorem Meas.of {w w':Wld} {i a b:Int} (ho:(za w'.consumers i).On=(za w.consumers i).On) (x y z u:Int) (e1:zke w' i=zke w i+x) (e2:zig w' i=zig w i+y) (e3:zl2 w' i=zl2 w i+z) (e4:sdN w' i=sdN w i+u)
  (k1:u+y+x≤a) (k2:2*x+y+z≤b) (k3:0≤b):Meas w w' i a b:=by
 refine ⟨fun h=>?_,?_⟩
 ·rw[ho] at h
  rw[if_pos h]
  unfold zq6;omega
 ·unfold zoz
  rw[ho]
  split<;>omega
theorem Meas.same {w w':Wld} {i a b:Int} (h1:za w'.consumers i=za w.consumers i) (h2:(zc w'.p.Links i).Out=(zc w.p.Links i).Out) (ha:0≤a) (hb:0≤b):Meas w w' i a b :=
 .of (by rw[h1]) 0 0 0 0 (by unfold zke;rw[h2];omega) (by unfold zig;rw[h1];omega) (by unfold zl2 sdN;rw[h1];omega) (by unfold sdN;rw[h1];omega) (by omega) (by omega) hb
def incA (d:Deed):Int:=if d.Kind=6∨d.Kind=11∨d.Kind=12 then 1 else 0
def incB (d:Deed):Int:=if d.Kind=6∨d.Kind=4 then 2 else if d.Kind=11∨d.Kind=12 then 1 else 0
theorem zass (d:Deed):0≤incA d:=by unfold incA;split<;>omega
theorem zast (d:Deed):0≤incB d:=by unfold incB;repeat' split;all_goals omega
theorem z7x {w w':Wld} {i:Int} (h:(zc w'.p.Links i).Out=(zc w.p.Links i).Out):zke w' i=zke w i+0:=by unfold zke;rw[h];omega
theorem z5o {w:Wld} (h:OkW w) {i:Int} (hi:0≤i∧i < 2):Meas w (zay w) i 1 2:=by
 have hg:zaa w.p=true∧w.p.Time≤w.clock∧w.clock≤1099511627776:=⟨h.pr,h.pt,by have:=h.t1;omega⟩
 obtain ⟨D',-,hD⟩:=zsd hg hi
 have ef:zd3 (ze9 w.p w.clock).1.Links i=(zc (zay w).p.Links i).Out:=rfl
 have eg:zd3 w.p.Links i=(zc w.p.Links i).Out:=rfl
 rcases hD with ⟨-,-,-,e4,-⟩ | ⟨-,-,-,-,-,-,-,-,e9⟩
 ·rw[ef,eg] at e4
  exact .same rfl e4 (by omega) (by omega)
 ·rw[ef,eg] at e9
  refine .of rfl 1 0 0 0 ?_ (by unfold zig;exact (Int.add_zero _).symm) (by unfold zl2 sdN;exact (Int.add_zero _).symm) (by unfold sdN;exact (Int.add_zero _).symm) (by omega) (by omega) (by omega)
  unfold zke
  rw[e9]
  simp only[yy6,yy5]
  omega
theorem zaao {w:Wld} (h:OkW w) (hd:w.deeds < 600) {j:Int} (hj:0≤j∧j < 2) (ho:(za w.consumers j).On=true) {i:Int} (hi:0≤i∧i < 2):Meas w (zba w j) i 0 0:=by
 rcases ze2 (C:=w.consumers) hj hi (zt9 w.clock (za w.consumers j)).1 with ⟨e,ec⟩ | ⟨e,ec⟩
 ·subst e
  obtain ⟨k,R,eR,hk,f1,f2,f3,f4,-⟩:=zuu h hd hj ho
  have ec:za (zba w i).consumers i=(zt9 w.clock (za w.consumers i)).1:=ec
  have lR:R.length=(za w.consumers i).Ripes.length+(za w.consumers i).Pending.length:=by rw[eR];simp
  refine .of (by rw[ec,f4,ho]) 0 (-(k:Int)) k k (z7x rfl) ?_ ?_ ?_ (by omega) (by omega) (by omega)
  ·unfold zig
   rw[ec,f1,f2]
   simp only[List.length_nil,List.length_drop]
   omega
  ·unfold zl2 sdN
   rw[ec,f3]
   simp only[yy6,List.length_map,List.length_take]
   omega
  ·unfold sdN
   rw[ec,f3]
   simp only[yy6,List.length_map,List.length_take]
   omega
 ·exact .same ec rfl (by omega) (by omega)
theorem zaap {w:Wld} {j:Int} (hj:0≤j∧j < 2) (q:Packet) {i:Int} (hi:0≤i∧i < 2) (ho:(za w.consumers j).On=true):Meas w (gotB w j q) i 0 0∧(i=j→zoz (gotB w j q) i=zoz w i - 1):=by
 rcases ze2 (C:=w.consumers) hj hi { za w.consumers j with Out:={ (za w.consumers j).Out with Got:=(za w.consumers j).Out.Got+1 } } with ⟨e,ec⟩ | ⟨e,ec⟩
 ·subst e
  have ec:za (gotB w i q).consumers i=_:=ec
  have e1:zke (gotB w i q) i=zke w i:=rfl
  have e2:zig (gotB w i q) i=zig w i:=by unfold zig;rw[ec]
  have e3:zl2 (gotB w i q) i=zl2 w i - 1:=by
   unfold zl2 sdN;rw[ec]
   show (((za w.consumers i).Out.Said.length:Nat):Int) - ((za w.consumers i).Out.Got+1)=_
   omega
  refine ⟨.of (by rw[ec]) 0 0 (-1) 0 (by omega) (by omega) (by omega) (by unfold sdN;rw[ec];exact (Int.add_zero _).symm) (by omega) (by omega) (by omega),fun _=>?_⟩
  unfold zoz
  rw[ec,ho,e1,e2,e3]
  simp only[if_true]
  omega
 ·exact ⟨.same ec rfl (by omega) (by omega),fun k=>absurd k e⟩
theorem zaaq {w:Wld} {j:Int} (hj:0≤j∧j < 2) (q:Packet) {i:Int} (hi:0≤i∧i < 2) (ho:(za w.consumers j).On=true):Meas w (z05 w j q) i 0 0∧(i=j→zoz (z05 w j q) i=zoz w i - 1∧zke (z05 w j q) i=zke w i - 1):=by
 have el:zc (z05 w j q).p.Links i=_:=zhb (L:=w.p.Links) hj hi { (zc w.p.Links j).Out with Got:=(zc w.p.Links j).Out.Got+1 }
 rcases ze2 (C:=w.consumers) hj hi { za w.consumers j with Pending:=(za w.consumers j).Pending++[q] } with ⟨e,ec⟩ | ⟨e,ec⟩
 ·subst e
  rw[if_pos rfl] at el
  have ec:za (z05 w i q).consumers i=_:=ec
  have e1:zke (z05 w i q) i=zke w i - 1:=by
   unfold zke;rw[el]
   show (((zc w.p.Links i).Out.Said.length:Nat):Int) - ((zc w.p.Links i).Out.Got+1)=_
   omega
  have e2:zig (z05 w i q) i=zig w i+1:=by
   unfold zig;rw[ec]
   simp only[yy6,yy5]
   omega
  have e3:zl2 (z05 w i q) i=zl2 w i:=by unfold zl2 sdN;rw[ec]
  refine ⟨.of (by rw[ec]) (-1) 1 0 0 (by omega) (by omega) (by omega) (by unfold sdN;rw[ec];exact (Int.add_zero _).symm) (by omega) (by omega) (by omega),fun _=>⟨?_,e1⟩⟩
  unfold zoz
  rw[ec,ho,e1,e2,e3]
  simp only[if_true]
  omega
 ·rw[if_neg e] at el
  exact ⟨.same ec (by rw[el]) (by omega) (by omega),fun k=>absurd k e⟩
theorem zaar {w:Wld} (h:OkW w) {j:Int} (hj:0≤j∧j < 2) {i:Int} (hi:0≤i∧i < 2) (ho:(za w.consumers j).On=true):Meas w (zq4 w j) i 0 0∧(i=j→zoz (zq4 w j) i+2≤zoz w i):=by
 have el:zc (zq4 w j).p.Links i=_:=zed (L:=w.p.Links) hj hi
 rcases ze2 (C:=w.consumers) hj hi { za w.consumers j with On:=false,Gone:=true,Out:={ (za w.consumers j).Out with Closed:=true } } with ⟨e,ec⟩ | ⟨e,ec⟩
 ·subst e
  have ec:za (zq4 w i).consumers i=_:=ec
  have p0:zoz (zq4 w i) i=0:=by unfold zoz;rw[ec];rfl
  have p1:2≤zoz w i:=by
   have h1:=zae5 h hi;have h2:=zakx h hi
   unfold zoz
   rw[if_pos ho]
   unfold zig;omega
  exact ⟨⟨fun k=>(by rw[ec] at k;cases k),by omega⟩,fun _=>by omega⟩
 ·rw[if_neg e] at el
  exact ⟨.same ec (by rw[el]) (by omega) (by omega),fun k=>absurd k e⟩
theorem zac2 {w:Wld} (h:OkW w) (hd:w.deeds < 600) (d:Deed) {i:Int} (hi:0≤i∧i < 2):Meas w (doW w d).1 i (incA d) (incB d):=by
 have a0:=zass d;have b0:=zast d
 have sm:∀ {w':Wld},za w'.consumers i=za w.consumers i→(zc w'.p.Links i).Out=(zc w.p.Links i).Out→Meas w w' i (incA d) (incB d):=fun e1 e2=>.same e1 e2 a0 b0
 have up:∀ {w':Wld} {a b:Int},Meas w w' i a b→a≤incA d→b≤incB d→Meas w w' i (incA d) (incB d):=fun m k1 k2=>⟨fun ho=>by have:=m.cnt ho;omega,by have:=m.phi;omega⟩
 refine z06 h hd d (P:=fun w' r=>Meas w w' i (incA d) (incB d)) ?_ ?_ ?_ ?_ ?_ ?_ ?_ ?_ ?_ ?_ ?_ ?_ ?_ ?_ ?_
 ·intro w' r a _;exact sm (by rw[a.c]) (by rw[a.p])
 ·intro _ _;exact sm rfl rfl
 ·intro _ _;exact sm rfl rfl
 ·intro _ _;exact sm rfl rfl
 ·intro _ _ _ _;exact sm rfl rfl
 ·intro _ _ _;exact sm rfl rfl
 ·intro k;exact up (z5o h hi) (by unfold incA;rw[if_pos (by omega)];exact Int.le_refl _) (by unfold incB;rw[if_pos (by omega)];exact Int.le_refl _)
 ·intro k hj _ hon _ _
  have el:zc (zsx w d.C).p.Links i=_:=zfb (L:=w.p.Links) (H:=w.p.Height) (T:=w.p.Set) (f:=zsq w.p) hj hi
  rcases ze2 (C:=w.consumers) hj hi (zje w.p.Set w.p.Height w.clock) with ⟨e,ec⟩ | ⟨e,ec⟩
  ·rw[if_pos e] at el
   have ec:za (zsx w d.C).consumers i=zje w.p.Set w.p.Height w.clock:=ec
   have e1:zke (zsx w d.C) i=0:=by unfold zke;rw[el];rfl
   have e2:zig (zsx w d.C) i=0:=by unfold zig;rw[ec];rfl
   have e3:sdN (zsx w d.C) i=0:=by unfold sdN;rw[ec];rfl
   have e4:zl2 (zsx w d.C) i=0:=by unfold zl2;rw[e3,ec];rfl
   have hoff:(za w.consumers i).On=false:=by rw[e,(h.c d.C hj).on];exact hon
   refine ⟨fun _=>?_,?_⟩
   ·rw[hoff]
    unfold zq6;rw[e1,e2,e3]
    simp only[Bool.false_eq_true,if_false];omega
   ·have p:=zaky h hi
    have b2:incB d=2:=by unfold incB;rw[if_pos (by omega)]
    have q:zoz (zsx w d.C) i=2:=by
     unfold zoz;rw[ec,e1,e2,e4];rfl
    omega
  ·rw[if_neg e] at el
   exact sm ec (by rw[el])
 ·intro _ hj ho;exact up (zaao h hd hj ho hi) a0 b0
 ·intro _ hj ho _
  have el:zc (zi5 w d.C).p.Links i=_:=zgv (L:=w.p.Links) hj hi (z4d w.heads d.C)
  exact sm rfl (by rw[el];split<;>rfl)
 ·intro _ hj ho _
  rcases ze2 (C:=w.consumers) hj hi { za w.consumers d.C with Seen:=zyg w.heads d.C } with ⟨e,ec⟩ | ⟨e,ec⟩
  ·have ec:za (z0q w d.C { za w.consumers d.C with Seen:=zyg w.heads d.C }).consumers i=_:=ec
   exact up (.of (by rw[ec,e]) 0 0 0 0 (z7x rfl) (by unfold zig;rw[ec,e];exact (Int.add_zero _).symm) (by unfold zl2 sdN;rw[ec,e];exact (Int.add_zero _).symm) (by unfold sdN;rw[ec,e];exact (Int.add_zero _).symm) (Int.le_refl 0) (Int.le_refl 0) (Int.le_refl 0)) a0 b0
  ·exact sm ec rfl
 ·intro q _ hj ho _ _ _;exact up (zaap hj q hi ho).1 a0 b0
 ·intro q _ hj ho _ _ _;exact up (zaaq hj q hi ho).1 a0 b0
 ·intro _ hj ho _;exact up (zaar h hj hi ho).1 a0 b0
 ·intro q f k hj ho _ _ _ _
  have a1:incA d=1:=by unfold incA;rw[if_pos (by omega)]
  have b1:1≤incB d:=by
   unfold incB
   rw[if_neg (by omega),if_pos k];exact Int.le_refl _
  rcases ze2 (C:=w.consumers) hj hi (zaae w d.C q f) with ⟨e,ec⟩ | ⟨e,ec⟩
  ·subst e
   have ec:za (z0q w d.C (zaae w d.C q f)).consumers d.C=zaae w d.C q f:=ec
   have es:sdN (z0q w d.C (zaae w d.C q f)) d.C=sdN w d.C+1:=by
    unfold sdN;rw[ec]
    show (((za w.consumers d.C).Out.Said++[_]).length:Int)=_
    simp only[yy6,yy5]
    omega
   exact .of (by rw[ec];rfl) 0 0 1 1 (z7x rfl) (by unfold zig;rw[ec];exact (Int.add_zero _).symm) (by
    unfold zl2;rw[es,ec]
    show sdN w d.C+1 - (za w.consumers d.C).Out.Got=_
    omega) es (by omega) (by omega) b0
  ·exact sm ec rfl
structure zakz (w:Wld):Prop where
 cnt:∀ i:Int,0≤i∧i < 2→(za w.consumers i).On=true→zq6 w i≤w.deeds
 phi:zoz w 0+zoz w 1≤4*w.deeds
theorem zak0:zakz newW:=by
 refine ⟨fun i hi ho=>?_,by decide⟩
 rcases (show i=0∨i=1 by omega) with rfl | rfl<;>cases ho
theorem zaoa {w:Wld} (h:OkW w) (hd:w.deeds < 600) (hm:zakz w) (d:Deed):zakz (doW w d).1:=by
 have e:=zaez (w:=w) d hd
 have d0:=h.d0
 have a1:incA d≤1:=by unfold incA;split<;>omega
 have b1:incB d≤2:=by unfold incB;repeat' split;all_goals omega
 refine ⟨fun i hi ho=>?_,?_⟩
 ·have m:=(zac2 h hd d hi).cnt ho
  rw[e]
  split at m
  ·rename_i k;have:=hm.cnt i hi k;omega
  ·omega
 ·have m0:=(zac2 h hd d (i:=0) (by omega)).phi
  have m1:=(zac2 h hd d (i:=1) (by omega)).phi
  have:=hm.phi
  rw[e];omega
def zgf (i:Int) (b:Bool):Deed:=⟨8,i,0,0,0,b,false⟩
def zl (i:Int) (b:Bool):Deed:=⟨9,i,0,0,0,b,false⟩
def zk5 (i n:Int) (b:Bool):Deed:=⟨10,i,0,0,n,b,false⟩
def zfo (i:Int):Deed:=⟨7,i,0,0,0,false,false⟩
def zkf:Nat→Int→Bool→Wld→Wld
 | 0,_,_,w=>w
 | n+1,i,b,w=>if (doW w (zl i b)).2.Code=0 then zkf n i b (doW w (zl i b)).1
  else if (doW w (zl i b)).2.Code=12 then (doW (doW (doW w (zl i b)).1 (zgf i (!b))).1 (zk5 i ((zav (doW w (zl i b)).1 i b).Got+1) b)).1
  else (doW w (zl i b)).1
def zuf (i:Int) (b:Bool) (w:Wld):Wld:=zkf 400 i b (doW w (zgf i b)).1
structure zgw (w:Wld):Prop where
 ok:OkW w
 told:zag3 w
 one:OneW w
 hold:HoldW w
 h4:w.p.Height < 399
theorem zmj {w:Wld} (h:zgw w) (hd:w.deeds < 600) (d:Deed) (h4:(doW w d).1.p.Height < 399):zgw (doW w d).1 :=
 ⟨zhi h.ok d,zaks h.ok hd h.told d,zapg h.ok hd h.one d,zakw h.ok hd h.h4 h.one h.hold d,h4⟩
theorem z5p {w:Wld} (hd:w.deeds < 600) {d:Deed} (k:6 < d.Kind∧d.Kind≤10) (hi:0≤d.C∧d.C < 2) (ho:(za w.consumers d.C).On=true) :
  doW w d=if d.Kind=7 then zne (zr w) d.C else if d.Kind=8 then z24 (zr w) d.C d.Back else if d.Kind=9 then zhd (zr w) d else zqb (zr w) d:=by
 have on:(zr w).consumers.On.get d.C=true:=ho
 unfold doW
 rw[if_neg (by omega)]
 unfold actW
 rw[if_neg (by omega),if_neg (by omega),if_neg (by omega),if_neg (by omega),if_neg (by omega),if_neg (by omega)]
 unfold znf
 rw[if_neg (by omega),if_neg (by omega),if_neg (fun z=>by rw[on] at z;cases z.2),if_neg (by omega)]
 by_cases c7:d.Kind=7
 ·rw[if_pos c7,if_pos c7]
 rw[if_neg c7,if_neg c7]
 by_cases c8:d.Kind=8
 ·rw[if_pos c8,if_pos c8]
 rw[if_neg c8,if_neg c8]
 by_cases c9:d.Kind=9
 ·rw[if_pos c9,if_pos c9]
 rw[if_neg c9,if_neg c9,if_pos (by omega)]
theorem zaha {w:Wld} (h:OkW w) (hd:w.deeds < 600) {i:Int} (hi:0≤i∧i < 2) (ho:(za w.consumers i).On=true):(doW w (zfo i)).1=zba w i:=by
 have hw:=h.c i hi
 have hh:=hw.height
 obtain ⟨e0,-⟩:=zq3 (now:=w.clock) hw.good ho ⟨hw.time,by have:=h.t1;omega⟩ (by omega)
 rw[z5p hd (d:=zfo i) (by show (6:Int) < 7∧(7:Int)≤10;omega) hi ho,if_pos (show (zfo i).Kind=7 from rfl)]
 show (zne (zr w) i).1=_
 unfold zne
 rw[if_neg (by show ¬ (zt9 w.clock (za w.consumers i)).2≠0;rw[e0];simp)]
 rfl
theorem zaas {w:Wld} (hd:w.deeds < 600) {i:Int} (hi:0≤i∧i < 2) (ho:(za w.consumers i).On=true):(doW w (zgf i true)).1=zi5 w i:=by
 rw[z5p hd (d:=zgf i true) (by show (6:Int) < 8∧(8:Int)≤10;omega) hi ho,if_neg (by show ¬ ((8:Int)=7);omega),if_pos (show (zgf i true).Kind=8 from rfl)]
 rfl
def z0r (w:Wld) (i:Int):Wld:=z0q w i { za w.consumers i with Seen:=zyg w.heads i }
theorem z7y {w:Wld} {i:Int} (hi:0≤i∧i < 2):za (z0r w i).consumers i={ za w.consumers i with Seen:=zyg w.heads i }:=zap hi _
theorem zac3 {w:Wld} {i j:Int} (hi:0≤i∧i < 2) (hj:0≤j∧j < 2):zoz (z0r w i) j=zoz w j∧zq6 (z0r w i) j=zq6 w j:=by
 have e1:zke (z0r w i) j=zke w j:=rfl
 by_cases k:j=i
 ·subst k
  have ec:=z7y (w:=w) (i:=j) hj
  have e2:zig (z0r w j) j=zig w j:=by unfold zig;rw[ec]
  have e3:zl2 (z0r w j) j=zl2 w j:=by unfold zl2 sdN;rw[ec]
  have e4:sdN (z0r w j) j=sdN w j:=by unfold sdN;rw[ec]
  have e5:(za (z0r w j).consumers j).On=(za w.consumers j).On:=by rw[ec]
  unfold zoz zq6
  rw[e1,e2,e3,e4,e5]
  exact ⟨rfl,rfl⟩
 ·have ec:za (z0r w i).consumers j=za w.consumers j:=z5 hi hj k _
  have e2:zig (z0r w i) j=zig w j:=by unfold zig;rw[ec]
  have e3:zl2 (z0r w i) j=zl2 w j:=by unfold zl2 sdN;rw[ec]
  have e4:sdN (z0r w i) j=sdN w j:=by unfold sdN;rw[ec]
  unfold zoz zq6
  rw[e1,e2,e3,e4,ec]
  exact ⟨rfl,rfl⟩
theorem zae7 {w:Wld} {i j:Int} (hi:0≤i∧i < 2) (hj:0≤j∧j < 2):zoz (zi5 w i) j=zoz w j:=by
 have ej:(zc (zi5 w i).p.Links j).Out=(zc w.p.Links j).Out:=by
  have:zc (zi5 w i).p.Links j=_:=zgv (L:=w.p.Links) hi hj (z4d w.heads i)
  rw[this];split<;>rfl
 have e1:zke (zi5 w i) j=zke w j:=by unfold zke;rw[ej]
 show (if (za w.consumers j).On=true then 2*zke (zi5 w i) j+zig w j+zl2 w j+2 else 0)=_
 rw[e1];rfl
theorem zaat {w:Wld} (hd:w.deeds < 600) {i:Int} (hi:0≤i∧i < 2) (ho:(za w.consumers i).On=true):(doW w (zgf i false)).1=z0r w i:=by
 rw[z5p hd (d:=zgf i false) (by show (6:Int) < 8∧(8:Int)≤10;omega) hi ho,if_neg (by show ¬ ((8:Int)=7);omega),if_pos (show (zgf i false).Kind=8 from rfl)]
 rfl
theorem zak1 {w:Wld} (h:OkW w) (hd:w.deeds < 600) {i n:Int} {b:Bool} (hi:0≤i∧i < 2) (ho:(za w.consumers i).On=true) (hl:(zzl w (zk5 i n b)).2=0):(doW w (zk5 i n b)).1=zq4 w i:=by
 rw[z5p hd (d:=zk5 i n b) (by show (6:Int) < 10∧(10:Int)≤10;omega) hi ho,if_neg (by show ¬ ((10:Int)=7);omega),if_neg (by show ¬ ((10:Int)=8);omega),if_neg (by show ¬ ((10:Int)=9);omega)]
 unfold zqb
 have e1:zzl (zr w) (zk5 i n b)=zzl w (zk5 i n b):=rfl
 obtain ⟨f1,f2⟩:=z3d h hi ho
 have e2:znd (zr w).p i=zpi w.p i:=f1
 have e3:zsa (za (zr w).consumers i)={ za w.consumers i with On:=false,Gone:=true,Out:={ (za w.consumers i).Out with Closed:=true } }:=f2
 rw[e1,if_neg (by rw[hl];simp)]
 show ({ zr w with p:=znd (zr w).p i,consumers:=zjh w.consumers i (zsa (za (zr w).consumers i)) }:Wld)=_
 rw[e2,e3]
 rfl
theorem z3j {l:zi6} {k time got:Int} (hg:zcb l) (ho:l.Closed=false) (h1:1≤k∧k≤(l.Said.length:Int)) (h2:got < k) (h3:l.Due.getD (k - 1).toNat 0≤time):(zp8 l k time got).2=0:=by
 unfold zp8
 rw[if_neg (fun z=>z hg),if_neg (by rw[ho];simp),if_neg (by omega),if_neg (by omega),if_neg (by omega)]
theorem zak2 {w:Wld} {i:Int} {b:Bool} (g:zcb (zav w i b)) (o:(zav w i b).Closed=false) (hs:z25 w i b=(((zav w i b).Said.length:Nat):Int)) :
  zhc w (zl i b)=if (zav w i b).Got=(((zav w i b).Said.length:Nat):Int) then (zav w i b,9) else if (zav w i b).Due.getD (zav w i b).Got.toNat 0≤w.clock then (zav w i b,12) else ({ zav w i b with Got:=(zav w i b).Got+1 },0):=by
 have g0:=g.2.2.1;have g1:=g.2.2.2.1;have g2:=g.2.1
 have hw:i64.wrap ((zav w i b).Got+1)=(zav w i b).Got+1:=zj (by omega) (by omega)
 show zj7 (zav w i b) (i64.wrap ((zav w i b).Got+1)) (zeh (zav w i b) false) (z25 w i b) w.clock=_
 rw[hw,hs]
 unfold zj7
 rw[if_neg (fun z=>z g),if_neg (by rw[o];simp),if_neg (fun z=>z rfl)]
 by_cases e:(zav w i b).Got=(((zav w i b).Said.length:Nat):Int)
 ·rw[if_pos (.inl (by omega)),if_pos e]
 ·have ht:zeh (zav w i b) false=(zav w i b).Said.getD (zav w i b).Got.toNat .empty:=by
   unfold zeh z96
   rw[if_neg (by simp),if_pos (by omega)]
  rw[if_neg (by
   rw[ht]
   rintro (z | z | z)
   ·omega
   ·omega
   ·exact z rfl),if_neg e]
theorem zak3 {w:Wld} (h:OkW w) (hd:w.deeds < 600) {i:Int} (hi:0≤i∧i < 2) (ho:(za w.consumers i).On=true) (o1:(zc w.p.Links i).Out.Closed=false) (hs:w.consumers.SSaid.get i=(((zc w.p.Links i).Out.Said.length:Nat):Int)) :
  (zke w i=0∧(doW w (zl i false)).1=zr w∧(doW w (zl i false)).2.Code=9) ∨
  (0 < zke w i∧(zc w.p.Links i).Out.Due.getD (zc w.p.Links i).Out.Got.toNat 0≤w.clock∧(doW w (zl i false)).1=zr w∧(doW w (zl i false)).2.Code=12) ∨
  (0 < zke w i∧∃ q,zcs q=0∧(zc w.p.Links i).Out.Said.getD (zc w.p.Links i).Out.Got.toNat .empty=pkT q∧(doW w (zl i false)).1=z05 w i q∧(doW w (zl i false)).2.Code=0):=by
 have gl:zcb (zc w.p.Links i).Out:=(h.p.lk hi).line
 have g0:=gl.2.2.1;have g1:=gl.2.2.2.1
 have hc:=zak2 (w:=w) (i:=i) (b:=false) gl o1 hs
 have el:zav w i false=(zc w.p.Links i).Out:=rfl
 rw[el] at hc
 have hb:doW w (zl i false)=zhd (zr w) (zl i false):=by
  rw[z5p hd (d:=zl i false) (by show (6:Int) < 9∧(9:Int)≤10;omega) hi ho,if_neg (by show ¬ ((9:Int)=7);omega),if_neg (by show ¬ ((9:Int)=8);omega),if_pos (show (zl i false).Kind=9 from rfl)]
 have eD:zhd (zr w) (zl i false)=if (zhc w (zl i false)).2≠0 then noW (zr w) (zhc w (zl i false)).2 else (if (zox (za w.consumers i) (zeh (zav w i false) false).data.toList).2≠0 then noW (zr w) (zox (za w.consumers i) (zeh (zav w i false) false).data.toList).2 else ({ zr w with p:={ w.p with Links:=zyf w.p.Links i (zhc w (zl i false)).1 },consumers:=zjh w.consumers i (zox (za w.consumers i) (zeh (zav w i false) false).data.toList).1 },⟨0,(zhc w (zl i false)).1.Got⟩)):=rfl
 rw[hb,eD]
 by_cases c1:(zc w.p.Links i).Out.Got=(((zc w.p.Links i).Out.Said.length:Nat):Int)
 ·rw[if_pos c1] at hc
  rw[hc,if_pos (by simp)]
  exact .inl ⟨by unfold zke;omega,rfl,rfl⟩
 ·rw[if_neg c1] at hc
  have f0:0 < zke w i:=by unfold zke;omega
  by_cases c2:(zc w.p.Links i).Out.Due.getD (zc w.p.Links i).Out.Got.toNat 0≤w.clock
  ·rw[if_pos c2] at hc
   rw[hc,if_pos (by simp)]
   exact .inr (.inl ⟨f0,c2,rfl,rfl⟩)
  ·rw[if_neg c2] at hc
   rw[hc,if_neg (by simp)]
   have hw:=h.c i hi
   have hm:=zfl (l:=(zc w.p.Links i).Out.Said) (k:=(zc w.p.Links i).Out.Got.toNat) (by omega) .empty
   obtain ⟨q,q1,q0,q2⟩:=hw.told _ hm
   have ht:zeh (zav w i false) false=txt (znb q):=by
    rw[el]
    unfold zeh z96
    rw[if_neg (by simp),if_pos (by omega),q2]
   have e3:zox (za w.consumers i) (znb q)=({ za w.consumers i with Pending:=(za w.consumers i).Pending++[q] },0):=by
    unfold zox
    rw[zzb q1,if_neg (by rw[hw.good];simp),if_neg (by rw[ho];simp),if_neg (by simp),if_neg (by simpa using q0)]
   rw[ht,zqv,e3,if_neg (by simp)]
   exact .inr (.inr ⟨f0,q,q1,q2,rfl,rfl⟩)
theorem zak4 {w:Wld} (h:OkW w) (hd:w.deeds < 600) {i:Int} (hi:0≤i∧i < 2) (ho:(za w.consumers i).On=true) (o1:(za w.consumers i).Out.Closed=false) (hs:w.p.Links.SSaid.get i=(((za w.consumers i).Out.Said.length:Nat):Int)) :
  (zl2 w i=0∧(doW w (zl i true)).1=zr w∧(doW w (zl i true)).2.Code=9) ∨
  (0 < zl2 w i∧(za w.consumers i).Out.Due.getD (za w.consumers i).Out.Got.toNat 0≤w.clock∧(doW w (zl i true)).1=zr w∧(doW w (zl i true)).2.Code=12) ∨
  (0 < zl2 w i∧∃ q,zcs q=0∧(za w.consumers i).Out.Said.getD (za w.consumers i).Out.Got.toNat .empty=pkT q∧(doW w (zl i true)).1=gotB w i q∧(doW w (zl i true)).2.Code=0):=by
 have hw:=h.c i hi
 have gl:zcb (za w.consumers i).Out:=(zas hw.good).2.1
 have g0:=gl.2.2.1;have g1:=gl.2.2.2.1
 have hc:=zak2 (w:=w) (i:=i) (b:=true) gl o1 hs
 have el:zav w i true=(za w.consumers i).Out:=rfl
 rw[el] at hc
 have hb:doW w (zl i true)=zhd (zr w) (zl i true):=by
  rw[z5p hd (d:=zl i true) (by show (6:Int) < 9∧(9:Int)≤10;omega) hi ho,if_neg (by show ¬ ((9:Int)=7);omega),if_neg (by show ¬ ((9:Int)=8);omega),if_pos (show (zl i true).Kind=9 from rfl)]
 have eD:zhd (zr w) (zl i true)=if (zhc w (zl i true)).2≠0 then noW (zr w) (zhc w (zl i true)).2 else (if (zif w.p i (zeh (zav w i true) false).data.toList).2≠0 then noW (zr w) (zif w.p i (zeh (zav w i true) false).data.toList).2 else ({ zr w with p:=(zif w.p i (zeh (zav w i true) false).data.toList).1,consumers:=zjh w.consumers i { za w.consumers i with Out:=(zhc w (zl i true)).1 } },⟨0,(zhc w (zl i true)).1.Got⟩)):=rfl
 rw[hb,eD]
 by_cases c1:(za w.consumers i).Out.Got=(((za w.consumers i).Out.Said.length:Nat):Int)
 ·rw[if_pos c1] at hc
  rw[hc,if_pos (by simp)]
  exact .inl ⟨by unfold zl2 sdN;omega,rfl,rfl⟩
 ·rw[if_neg c1] at hc
  have f0:0 < zl2 w i:=by unfold zl2 sdN;omega
  by_cases c2:(za w.consumers i).Out.Due.getD (za w.consumers i).Out.Got.toNat 0≤w.clock
  ·rw[if_pos c2] at hc
   rw[hc,if_pos (by simp)]
   exact .inr (.inl ⟨f0,c2,rfl,rfl⟩)
  ·rw[if_neg c2] at hc
   rw[hc,if_neg (by simp)]
   have hm:=zfl (l:=(za w.consumers i).Out.Said) (k:=(za w.consumers i).Out.Got.toNat) (by omega) .empty
   obtain ⟨q,q1,q0,q2⟩:=hw.said _ hm
   have ht:zeh (zav w i true) false=txt (znb q):=by
    rw[el]
    unfold zeh z96
    rw[if_neg (by simp),if_pos (by omega),q2]
   have on:w.p.Links.On.get i=true:=by rw[← hw.on];exact ho
   have e3:zif w.p i (znb q)=({ w.p with Queue:=w.p.Queue++[⟨i,q⟩] },0):=by
    unfold zif
    rw[zzb q1,if_neg (by rw[h.pr];simp),if_pos ⟨hi,on⟩,if_neg (by simp),if_neg (by simpa using q0)]
   rw[ht,zqv,e3,if_neg (by simp)]
   exact .inr (.inr ⟨f0,q,q1,q2,rfl,rfl⟩)
def zl1 (w:Wld):Int:=w.deeds+zoz w 0+zoz w 1
theorem zot {w:Wld} (h:OkW w):w.deeds≤zl1 w:=by
 have:=zaky h (i:=0) (by omega);have:=zaky h (i:=1) (by omega)
 unfold zl1;omega
theorem z07 {w w':Wld} {i n b:Int} (hi:0≤i∧i < 2) (hd:w'.deeds=w.deeds+n) (h0:∀ j:Int,0≤j∧j < 2→j≠i→zoz w' j≤zoz w j) (h1:zoz w' i≤zoz w i - b):zl1 w'≤zl1 w+n - b:=by
 unfold zl1
 rcases (show i=0∨i=1 by omega) with rfl | rfl
 ·have:=h0 1 (by omega) (by omega);omega
 ·have:=h0 0 (by omega) (by omega);omega
structure Fr (w w':Wld) (i:Int):Prop where
 clock:w'.clock=w.clock
 height:w'.p.Height=w.p.Height
 set:w'.p.Set=w.p.Set
 vals:w'.p.Stake.Validators=w.p.Stake.Validators
 met:w'.p.Meter=w.p.Meter
 other:∀ j:Int,0≤j∧j < 2→j≠i→za w'.consumers j=za w.consumers j∧zc w'.p.Links j=zc w.p.Links j
 waits:NearW w.p.Stake.Waits w'.p.Stake.Waits
theorem Fr.refl (w:Wld) (i:Int):Fr w w i:=⟨rfl,rfl,rfl,rfl,rfl,fun _ _ _=>⟨rfl,rfl⟩,.refl _⟩
theorem Fr.trans {a b c:Wld} {i:Int} (h:Fr a b i) (k:Fr b c i):Fr a c i :=
 ⟨k.clock.trans h.clock,k.height.trans h.height,k.set.trans h.set,k.vals.trans h.vals,k.met.trans h.met,fun j hj e=>⟨(k.other j hj e).1.trans (h.other j hj e).1,(k.other j hj e).2.trans (h.other j hj e).2⟩,h.waits.trans k.waits⟩
theorem z7z (w:Wld) (i:Int):Fr w (zr w) i:=⟨rfl,rfl,rfl,rfl,rfl,fun _ _ _=>⟨rfl,rfl⟩,.refl _⟩
theorem zak5 {w:Wld} {i:Int} (hi:0≤i∧i < 2):Fr w (zi5 w i) i:=⟨rfl,rfl,rfl,rfl,rfl,fun j hj e=>⟨rfl,by
 have el:zc (zi5 w i).p.Links j=_:=zgv (L:=w.p.Links) hi hj (z4d w.heads i)
 rw[el,if_neg e]⟩,.refl _⟩
theorem zak6 {w:Wld} {i:Int} (hi:0≤i∧i < 2) (c:Consumer):Fr w (z0q w i c) i:=⟨rfl,rfl,rfl,rfl,rfl,fun j hj e=>⟨z5 hi hj e c,rfl⟩,.refl _⟩
theorem zak7 {w:Wld} {i:Int} (hi:0≤i∧i < 2):Fr w (zba w i) i:=⟨rfl,rfl,rfl,rfl,rfl,fun j hj e=>⟨z5 hi hj e _,rfl⟩,.refl _⟩
theorem zasu {w:Wld} {i:Int} (hi:0≤i∧i < 2) (q:Packet):Fr w (z05 w i q) i:=⟨rfl,rfl,rfl,rfl,rfl,fun j hj e=>⟨z5 hi hj e _,by
 have el:zc (z05 w i q).p.Links j=_:=zhb (L:=w.p.Links) hi hj { (zc w.p.Links i).Out with Got:=(zc w.p.Links i).Out.Got+1 }
 rw[el,if_neg e]⟩,.refl _⟩
theorem zasv {w:Wld} {i:Int} (hi:0≤i∧i < 2) (q:Packet):Fr w (gotB w i q) i:=⟨rfl,rfl,rfl,rfl,rfl,fun j hj e=>⟨z5 hi hj e _,rfl⟩,.refl _⟩
theorem zasw {w:Wld} {i:Int} (hi:0≤i∧i < 2):Fr w (zq4 w i) i:=⟨rfl,rfl,rfl,rfl,rfl,fun j hj e=>⟨z5 hi hj e _,by
 have el:zc (zq4 w i).p.Links j=_:=zed (L:=w.p.Links) hi hj
 rw[el,if_neg e]⟩,NearW.map (zae1 _ _)⟩
theorem zaau {w:Wld} (h:zgw w) {i:Int} (hi:0≤i∧i < 2) (ho:(za w.consumers i).On=true) (hp:zl1 w≤590) {b:Bool} (g:zcb (zav w i b)) (o:(zav w i b).Closed=false) (h0:(zav w i b).Got < (((zav w i b).Said.length:Nat):Int)) (hl:(zav w i b).Due.getD (zav w i b).Got.toNat 0≤w.clock)
  (ht:if b=true then w.heads.PTime.get i=w.clock∧w.heads.PGot.get i≤(zav w i b).Got else w.heads.CTime.get i=w.clock∧w.heads.CGot.get i≤(zav w i b).Got) :
  ∃ w',(doW (doW (zr w) (zgf i (!b))).1 (zk5 i ((zav w i b).Got+1) b)).1=w'∧zgw w'∧Fr w w' i∧w'.heads=w.heads∧(∀ a,a∈w'.p.Queue→a∈w.p.Queue)∧zl1 w'≤zl1 w+1∧(za w'.consumers i).On=false:=by
 have hd:=zot h.ok
 have g0:=g.2.2.1
 have hd0:=h.ok.d0
 have mk:∀ w1:Wld,w1=(if b=true then z0r (zr w) i else zi5 (zr w) i)→zgw w1→Fr w w1 i→w1.heads=w.heads→w1.p.Queue=w.p.Queue→w1.deeds=w.deeds+2→(za w1.consumers i).On=true→(∀ j:Int,0≤j∧j < 2→zoz w1 j=zoz w j) →
   (zzl w1 (zk5 i ((zav w i b).Got+1) b)).2=0→∃ w',(doW w1 (zk5 i ((zav w i b).Got+1) b)).1=w'∧zgw w'∧Fr w w' i∧w'.heads=w.heads∧(∀ a,a∈w'.p.Queue→a∈w.p.Queue)∧zl1 w'≤zl1 w+1∧(za w'.consumers i).On=false:=by
  intro w1 _ l1 f1 h1 q1 d1 o1 p1 lt
  have e:=zak1 l1.ok (by omega) hi o1 lt
  have ec:za (zq4 w1 i).consumers i=_:=zap hi _
  refine ⟨zq4 w1 i,e,?_,f1.trans (zasw hi),h1,fun a ha=>?_,?_,by rw[ec]⟩
  ·rw[← e];exact zmj l1 (by omega) _ (by rw[e];exact l1.h4)
  ·rw[← q1];exact (List.mem_filter.1 (show a∈w1.p.Queue.filter (zz9 i) from ha)).1
  ·have m:=fun j hj=>(zaar l1.ok hi (i:=j) hj o1)
   have:=z07 (w:=w1) (w':=zq4 w1 i) (i:=i) (n:=1) (b:=2) hi rfl (fun j hj _=>by have:=(m j hj).1.phi;omega) (by have:=(m i hi).2 rfl;omega)
   have:zl1 w1=zl1 w+2:=by unfold zl1;rw[d1,p1 0 (by omega),p1 1 (by omega)];omega
   omega
 have hm:zgw (zr w):=by
  have:=zmj h (by omega) (⟨14,0,0,0,0,false,false⟩:Deed)
  have e:(doW w (⟨14,0,0,0,0,false,false⟩:Deed)).1=zr w:=by
   unfold doW
   rw[if_neg (by omega)]
   rfl
  rw[e] at this
  exact this h.h4
 cases b with
 | true =>
  have e:=zaat (w:=zr w) (by show w.deeds+1 < 600;omega) hi ho
  have ec:za (z0r (zr w) i).consumers i={ za w.consumers i with Seen:=zyg w.heads i }:=z7y hi
  show ∃ w',(doW (doW (zr w) (zgf i false)).1 _).1=w'∧_
  rw[e]
  refine mk _ (by rw[if_pos rfl]) ?_ ((z7z w i).trans (zak6 hi _)) rfl rfl (by show w.deeds+1+1=_;omega) (by rw[ec];exact ho) (fun j hj=>(zac3 (w:=zr w) hi hj).1) ?_
  ·rw[← e];exact zmj hm (by show w.deeds+1 < 600;omega) _ (by rw[e];exact h.h4)
  ·have ht:=(if_pos (rfl:true=true)).mp ht
   have el:zav w i true=(za w.consumers i).Out:=rfl
   rw[el] at g o h0 hl ht ⊢
   have g00:=g.2.2.1
   have eo:(za (z0r (zr w) i).consumers i).Out=(za w.consumers i).Out:=by rw[ec]
   have et:(z0r (zr w) i).consumers.STime.get i=w.heads.PTime.get i:=by have z:=congrArg (fun c:Consumer=>c.Seen.Time) ec;exact z
   have eg:(z0r (zr w) i).consumers.SGot.get i=w.heads.PGot.get i:=by have z:=congrArg (fun c:Consumer=>c.Seen.Got) ec;exact z
   show (zp8 (za (z0r (zr w) i).consumers i).Out ((za w.consumers i).Out.Got+1) ((z0r (zr w) i).consumers.STime.get i) ((z0r (zr w) i).consumers.SGot.get i)).2=0
   rw[eo,et,eg,ht.1]
   exact z3j g o ⟨by omega,by omega⟩ (by omega) (by rw[show ((za w.consumers i).Out.Got+1 - 1)=(za w.consumers i).Out.Got by omega];exact hl)
 | false =>
  have e:=zaas (w:=zr w) (by show w.deeds+1 < 600;omega) hi ho
  have eL:zc (zi5 (zr w) i).p.Links i=_:=zgv (L:=w.p.Links) hi hi (z4d w.heads i)
  rw[if_pos rfl] at eL
  show ∃ w',(doW (doW (zr w) (zgf i true)).1 _).1=w'∧_
  rw[e]
  refine mk _ (by rw[if_neg (by simp)]) ?_ ((z7z w i).trans (zak5 hi)) rfl rfl (by show w.deeds+1+1=_;omega) ho (fun j hj=>zae7 (w:=zr w) hi hj) ?_
  ·rw[← e];exact zmj hm (by show w.deeds+1 < 600;omega) _ (by rw[e];exact h.h4)
  ·have ht:=(if_neg (show ¬ (false=true) by simp)).mp ht
   have el:zav w i false=(zc w.p.Links i).Out:=rfl
   rw[el] at g o h0 hl ht ⊢
   have g00:=g.2.2.1
   have eo:(zc (zi5 (zr w) i).p.Links i).Out=(zc w.p.Links i).Out:=by rw[eL]
   have et:(zi5 (zr w) i).p.Links.STime.get i=w.heads.CTime.get i:=congrArg (fun c:Link=>c.Seen.Time) eL
   have eg:(zi5 (zr w) i).p.Links.SGot.get i=w.heads.CGot.get i:=congrArg (fun c:Link=>c.Seen.Got) eL
   show (zp8 (zc (zi5 (zr w) i).p.Links i).Out ((zc w.p.Links i).Out.Got+1) ((zi5 (zr w) i).p.Links.STime.get i) ((zi5 (zr w) i).p.Links.SGot.get i)).2=0
   rw[eo,et,eg,ht.1]
   exact z3j g o ⟨by omega,by omega⟩ (by omega) (by rw[show ((zc w.p.Links i).Out.Got+1 - 1)=(zc w.p.Links i).Out.Got by omega];exact hl)
structure za2o (w w':Wld) (i:Int):Prop where
 live:zgw w'
 fr:Fr w w' i
 heads:w'.heads=w.heads
 queue:∀ a,a∈w'.p.Queue→a∈w.p.Queue
 psi:zl1 w'≤zl1 w+1
 cnt:(za w'.consumers i).On=true→zq6 w' i≤zq6 w i
 on:(za w'.consumers i).On=false∨(zc w'.p.Links i={ zc w.p.Links i with Out:={ (zc w.p.Links i).Out with Got:=(((zc w.p.Links i).Out.Said.length:Nat):Int) } } ∧
  ∃ ms,za w'.consumers i={ za w.consumers i with Pending:=(za w.consumers i).Pending++ms }∧(zke w i=0→ms=[]))
theorem zaav {w:Wld} (h:zgw w) (hd:w.deeds < 600):zgw (zr w):=by
 have:=zmj h hd (⟨14,0,0,0,0,false,false⟩:Deed)
 have e:(doW w (⟨14,0,0,0,0,false,false⟩:Deed)).1=zr w:=by
  unfold doW
  rw[if_neg (by omega)]
  rfl
 rw[e] at this
 exact this h.h4
theorem zak8 {w:Wld} {i:Int} (h:zke w i=0):zc w.p.Links i={ zc w.p.Links i with Out:={ (zc w.p.Links i).Out with Got:=(((zc w.p.Links i).Out.Said.length:Nat):Int) } }:=by
 have e:(((zc w.p.Links i).Out.Said.length:Nat):Int)=(zc w.p.Links i).Out.Got:=by unfold zke at h;omega
 rw[e]
theorem zaaw (w:Wld) (i:Int):za w.consumers i={ za w.consumers i with Pending:=(za w.consumers i).Pending++[] }:=by rw[List.append_nil]
theorem zaph {i:Int} (hi:0≤i∧i < 2):∀ (n:Nat) {w:Wld},zgw w→(za w.consumers i).On=true→zke w i≤n→zl1 w≤590→w.consumers.SSaid.get i=(((zc w.p.Links i).Out.Said.length:Nat):Int) →
  w.heads.CTime.get i=w.clock→w.heads.CGot.get i≤(zc w.p.Links i).Out.Got→za2o w (zkf n i false w) i
 | 0,w,h,ho,hf,hp,hs,ht,hg=>by
  have f0:=zae5 h.ok hi
  have f0:zke w i=0:=by omega
  exact ⟨h,.refl _ _,rfl,fun _ h=>h,by show zl1 w≤_;omega,fun _=>Int.le_refl _,.inr ⟨zak8 f0,[],zaaw w i,fun _=>rfl⟩⟩
 | n+1,w,h,ho,hf,hp,hs,ht,hg=>by
  have hd:=zot h.ok
  obtain ⟨o1,o2,n1,-⟩:=h.one.one i hi ho
  have gl:zcb (zc w.p.Links i).Out:=(h.ok.p.lk hi).line
  have g0:=gl.2.2.1;have g1:=gl.2.2.2.1
  have pm:zl1 (zr w)=zl1 w+1:=by show w.deeds+1+zoz w 0+zoz w 1=_;unfold zl1;omega
  unfold zkf
  rcases zak3 h.ok (by omega) hi ho o1 hs with ⟨f0,e1,e2⟩ | ⟨f0,l1,e1,e2⟩ | ⟨f0,q,q1,q2,e1,e2⟩
  ·rw[if_neg (by rw[e2];omega),if_neg (by rw[e2];omega),e1]
   exact ⟨zaav h (by omega),z7z w i,rfl,fun _ h=>h,by omega,fun _=>Int.le_refl (zq6 w i),.inr ⟨zak8 f0,[],zaaw w i,fun _=>rfl⟩⟩
  ·rw[if_neg (by rw[e2];omega),if_pos e2,e1]
   have el:zav (zr w) i false=zav w i false:=rfl
   have f1:(zc w.p.Links i).Out.Got < (((zc w.p.Links i).Out.Said.length:Nat):Int):=by unfold zke at f0;omega
   obtain ⟨w',k1,k2,k3,k4,k5,k6,k7⟩:=zaau h hi ho hp (b:=false) gl o1 f1 l1 (by rw[if_neg (by simp)];exact ⟨ht,hg⟩)
   rw[el,k1]
   exact ⟨k2,k3,k4,k5,k6,fun z=>(by rw[k7] at z;cases z),.inl k7⟩
  ·rw[if_pos e2,e1]
   have ec:za (z05 w i q).consumers i=_:=zap hi _
   have eL:zc (z05 w i q).p.Links i=_:=zhb (L:=w.p.Links) hi hi { (zc w.p.Links i).Out with Got:=(zc w.p.Links i).Out.Got+1 }
   rw[if_pos rfl] at eL
   have l1:zgw (z05 w i q):=by rw[← e1];exact zmj h (by omega) _ (by rw[e1];exact h.h4)
   have m:=fun j hj=>zaaq hi q (i:=j) hj ho
   have ps:=z07 (w:=w) (w':=z05 w i q) (i:=i) (n:=1) (b:=1) hi rfl (fun j hj _=>by have:=(m j hj).1.phi;omega) (by have:=((m i hi).2 rfl).1;omega)
   have fw:=((m i hi).2 rfl).2
   have es:(z05 w i q).consumers.SSaid.get i=w.consumers.SSaid.get i:=congrArg (fun c:Consumer=>c.Seen.Said) ec
   have mc:=(m i hi).1.cnt (congrArg Consumer.On ec |>.trans ho)
   rw[if_pos ho] at mc
   obtain ⟨p1,p2,p3,p4,p5,pc,p6⟩:=zaph hi n (w:=z05 w i q) l1 (congrArg Consumer.On ec |>.trans ho) (by omega) (by omega) (by rw[es,eL];exact hs) ht (by rw[eL];show w.heads.CGot.get i≤(zc w.p.Links i).Out.Got+1;omega)
   refine ⟨p1,(zasu hi q).trans p2,p3,p4,by omega,fun z=>(by have:=pc z;omega),?_⟩
   rcases p6 with p6 | ⟨p6,ms,p7,-⟩
   ·exact .inl p6
   ·refine .inr ⟨by rw[p6,eL],q::ms,?_,fun z=>by omega⟩
    rw[p7,ec]
    simp only[List.append_assoc,List.singleton_append]
def InB (w:Wld) (i:Int) (a:Asked):Prop:=a.C=i∧zcs a.P=0∧pkT a.P∈(za w.consumers i).Out.Said.drop (za w.consumers i).Out.Got.toNat
structure za2p (w w':Wld) (i:Int):Prop where
 live:zgw w'
 fr:Fr w w' i
 heads:w'.heads=w.heads
 queue:∀ a,a∈w'.p.Queue→a∈w.p.Queue∨InB w i a
 psi:zl1 w'≤zl1 w+1
 on:(za w'.consumers i).On=false∨(zc w'.p.Links i=zc w.p.Links i ∧
  za w'.consumers i={ za w.consumers i with Out:={ (za w.consumers i).Out with Got:=(((za w.consumers i).Out.Said.length:Nat):Int) } })
theorem zae8 {w:Wld} {i:Int} (h:zl2 w i=0):za w.consumers i={ za w.consumers i with Out:={ (za w.consumers i).Out with Got:=(((za w.consumers i).Out.Said.length:Nat):Int) } }:=by
 have e:(((za w.consumers i).Out.Said.length:Nat):Int)=(za w.consumers i).Out.Got:=by unfold zl2 sdN at h;omega
 rw[e]
theorem zapi {i:Int} (hi:0≤i∧i < 2):∀ (n:Nat) {w:Wld},zgw w→(za w.consumers i).On=true→zl2 w i≤n→zl1 w≤590→w.p.Links.SSaid.get i=(((za w.consumers i).Out.Said.length:Nat):Int) →
  w.heads.PTime.get i=w.clock→w.heads.PGot.get i≤(za w.consumers i).Out.Got→za2p w (zkf n i true w) i
 | 0,w,h,ho,hf,hp,hs,ht,hg=>by
  have f0:=zakx h.ok hi
  have f0:zl2 w i=0:=by omega
  exact ⟨h,.refl _ _,rfl,fun _ h=>.inl h,by show zl1 w≤_;omega,.inr ⟨rfl,zae8 f0⟩⟩
 | n+1,w,h,ho,hf,hp,hs,ht,hg=>by
  have hd:=zot h.ok
  obtain ⟨o1,o2,n1,-⟩:=h.one.one i hi ho
  have gl:zcb (za w.consumers i).Out:=(zas (h.ok.c i hi).good).2.1
  have g0:=gl.2.2.1;have g1:=gl.2.2.2.1
  have pm:zl1 (zr w)=zl1 w+1:=by show w.deeds+1+zoz w 0+zoz w 1=_;unfold zl1;omega
  unfold zkf
  rcases zak4 h.ok (by omega) hi ho o2 hs with ⟨f0,e1,e2⟩ | ⟨f0,l1,e1,e2⟩ | ⟨f0,q,q1,q2,e1,e2⟩
  ·rw[if_neg (by rw[e2];omega),if_neg (by rw[e2];omega),e1]
   exact ⟨zaav h (by omega),z7z w i,rfl,fun _ h=>.inl h,by omega,.inr ⟨rfl,zae8 f0⟩⟩
  ·rw[if_neg (by rw[e2];omega),if_pos e2,e1]
   have el:zav (zr w) i true=zav w i true:=rfl
   have f1:(za w.consumers i).Out.Got < (((za w.consumers i).Out.Said.length:Nat):Int):=by unfold zl2 sdN at f0;omega
   obtain ⟨w',k1,k2,k3,k4,k5,k6,k7⟩:=zaau h hi ho hp (b:=true) gl o2 f1 l1 (by rw[if_pos rfl];exact ⟨ht,hg⟩)
   rw[el,k1]
   exact ⟨k2,k3,k4,fun a ha=>.inl (k5 a ha),k6,.inl k7⟩
  ·rw[if_pos e2,e1]
   have ec:za (gotB w i q).consumers i=_:=zap hi _
   have l1:zgw (gotB w i q):=by rw[← e1];exact zmj h (by omega) _ (by rw[e1];exact h.h4)
   have m:=fun j hj=>zaap hi q (i:=j) hj ho
   have ps:=z07 (w:=w) (w':=gotB w i q) (i:=i) (n:=1) (b:=1) hi rfl (fun j hj _=>by have:=(m j hj).1.phi;omega) (by have:=(m i hi).2 rfl;omega)
   have fw:zl2 (gotB w i q) i=zl2 w i - 1:=by
    unfold zl2 sdN;rw[ec]
    show (((za w.consumers i).Out.Said.length:Nat):Int) - ((za w.consumers i).Out.Got+1)=_
    omega
   have es:(gotB w i q).p.Links.SSaid.get i=w.p.Links.SSaid.get i:=rfl
   obtain ⟨p1,p2,p3,p4,p5,p6⟩:=zapi hi n (w:=gotB w i q) l1 (congrArg Consumer.On ec |>.trans ho) (by omega) (by omega) (by rw[es,ec];exact hs) ht (by rw[ec];show w.heads.PGot.get i≤(za w.consumers i).Out.Got+1;omega)
   have f1:(za w.consumers i).Out.Got.toNat < (za w.consumers i).Out.Said.length:=by unfold zl2 sdN at f0;omega
   refine ⟨p1,(zasv hi q).trans p2,p3,fun a ha=>?_,by omega,?_⟩
   ·rcases p4 a ha with z | ⟨z1,z2,z3⟩
    ·rcases List.mem_append.1 (show a∈w.p.Queue++[⟨i,q⟩] from z) with z | z
     ·exact .inl z
     ·have z:=List.mem_singleton.1 z
      subst z
      refine .inr ⟨rfl,q1,?_⟩
      rw[zau f1 .empty,q2]
      exact List.mem_cons_self ..
    ·refine .inr ⟨z1,z2,?_⟩
     rw[ec] at z3
     have z3:pkT a.P∈(za w.consumers i).Out.Said.drop ((za w.consumers i).Out.Got+1).toNat:=z3
     rw[show ((za w.consumers i).Out.Got+1).toNat=(za w.consumers i).Out.Got.toNat+1 by omega] at z3
     rw[zau f1 .empty]
     exact List.mem_cons_of_mem _ z3
   ·rcases p6 with p6 | ⟨p6,p7⟩
    ·exact .inl p6
    ·exact .inr ⟨p6,by rw[p7,ec]⟩
structure SameP (h h':zuw):Prop where
 time:h'.PTime=h.PTime
 got:h'.PGot=h.PGot
 said:h'.PSaid=h.PSaid
theorem SameP.refl (h:zuw):SameP h h:=⟨rfl,rfl,rfl⟩
theorem SameP.trans {a b c:zuw} (h:SameP a b) (k:SameP b c):SameP a c:=⟨k.time.trans h.time,k.got.trans h.got,k.said.trans h.said⟩
theorem zwy {α:Type} (a:A2 α) {i:Int} (y:α) (hi:0≤i∧i < 2):(a.set i y).get i=y:=by rw[zao _ _ hi hi,if_pos rfl]
def z5q (w:Wld) (i:Int):List Ripe:=(za w.consumers i).Ripes++(za w.consumers i).Pending.map (fun p=>(⟨p.Id,w.clock+15⟩:Ripe))
structure Done (w:Wld) (i:Int) (k:Nat):Prop where
 k0:k≤(z5q w i).length
 live:zgw (zba w i)
 psi:zl1 (zba w i)≤zl1 w+1
 on:(za (zba w i).consumers i).On=true
 pend:(za (zba w i).consumers i).Pending=[]
 ripes:(za (zba w i).consumers i).Ripes=(z5q w i).drop k
 said:(za (zba w i).consumers i).Out.Said=(za w.consumers i).Out.Said++((z5q w i).take k).map matT
 got:(za (zba w i).consumers i).Out.Got=(za w.consumers i).Out.Got
 ok:∀ r,r∈z5q w i→zjd r=true
 all:(∀ r,r∈z5q w i→r.Due≤w.clock)→zq6 w i < 400→(z5q w i).drop k=[]
 hp:SameP w.heads (zba w i).heads
 ctime:(zba w i).heads.CTime.get i=w.clock
 cgot:(zba w i).heads.CGot.get i=(zc w.p.Links i).Out.Got
 csaid:(zba w i).heads.CSaid.get i=(((za (zba w i).consumers i).Out.Said.length:Nat):Int)
 cnt:zq6 (zba w i) i≤zq6 w i
theorem zaax {w:Wld} (h:zgw w) {i:Int} (hi:0≤i∧i < 2) (ho:(za w.consumers i).On=true) (hp:zl1 w≤590):(doW w (zfo i)).1=zba w i∧∃ k,Done w i k:=by
 have hd:=zot h.ok
 have e:=zaha h.ok (by omega) hi ho
 refine ⟨e,?_⟩
 obtain ⟨k,R,eR,hk,f1,f2,f3,f4,f5,f6,f7,f8,f9,f10⟩:=zuu h.ok (by omega) hi ho
 have ec:za (zba w i).consumers i=(zt9 w.clock (za w.consumers i)).1:=zap hi _
 have eR:R=z5q w i:=eR
 subst eR
 have m:=fun j hj=>zaao h.ok (by omega) hi ho (i:=j) hj
 have lv:zgw (zba w i):=by rw[← e];exact zmj h (by omega) _ (by rw[e];exact h.h4)
 refine ⟨k,hk,lv,?_,by rw[ec,f4],by rw[ec,f1],by rw[ec,f2],by rw[ec,f3],by rw[ec,f3],f6,?_,⟨rfl,rfl,rfl⟩,?_,?_,?_,?_⟩
 ·have:=z07 (w:=w) (w':=zba w i) (i:=i) (n:=1) (b:=0) hi rfl (fun j hj _=>by have:=(m j hj).phi;omega) (by have:=(m i hi).phi;omega)
  omega
 ·intro ha hc
  rw[List.drop_eq_nil_iff]
  obtain ⟨o1,o2,-⟩:=h.one.one i hi ho
  rcases f10 with z | ⟨r,z1,z2⟩ | z | z
  ·omega
  ·have:=ha r (List.mem_of_getElem? z1);omega
  ·rw[o2] at z;cases z
  ·exfalso
   have fw:=zae5 h.ok hi
   have lR:(z5q w i).length=(za w.consumers i).Ripes.length+(za w.consumers i).Pending.length:=by unfold z5q;simp
   unfold zq6 sdN zig at hc
   omega
 ·show (w.heads.CTime.set i (zt9 w.clock (za w.consumers i)).1.Time).get i=_
  rw[zwy _ _ hi,f5]
 ·show (w.heads.CGot.set i (w.p.Links.Got.get i)).get i=_
  rw[zwy _ _ hi];rfl
 ·show (w.heads.CSaid.set i (((zt9 w.clock (za w.consumers i)).1.Out.Said.length:Nat):Int)).get i=_
  rw[zwy _ _ hi,ec]
 ·have:=(m i hi).cnt (by rw[ec,f4])
  rw[if_pos ho] at this
  omega
theorem zaay {w w':Wld} (hd:w'.deeds=w.deeds+1) (h:∀ j:Int,0≤j∧j < 2→zoz w' j=zoz w j):zl1 w'=zl1 w+1:=by
 unfold zl1;rw[hd,h 0 (by omega),h 1 (by omega)];omega
structure za2q (w w':Wld) (i:Int):Prop where
 live:zgw w'
 fr:Fr w w' i
 hp:SameP w.heads w'.heads
 queue:∀ a,a∈w'.p.Queue→a∈w.p.Queue
 psi:zl1 w'≤zl1 w+3
 on:(za w'.consumers i).On=false∨((za w'.consumers i).On=true∧zc w'.p.Links i={ zc w.p.Links i with Out:={ (zc w.p.Links i).Out with Got:=(((zc w.p.Links i).Out.Said.length:Nat):Int) } } ∧
  ∃ k ms,Done w i k∧(zke w i=0→ms=[])∧(za w'.consumers i).Pending=ms∧(za w'.consumers i).Ripes=(z5q w i).drop k∧(za w'.consumers i).Out.Said=(za w.consumers i).Out.Said++((z5q w i).take k).map matT∧(za w'.consumers i).Out.Got=(za w.consumers i).Out.Got∧zq6 w' i≤zq6 w i)
theorem zaw6 {w:Wld} (h:zgw w) {i:Int} (hi:0≤i∧i < 2) (ho:(za w.consumers i).On=true) (hp:zl1 w≤580) (hs:w.heads.PSaid.get i=(((zc w.p.Links i).Out.Said.length:Nat):Int)):za2q w (zuf i false (doW w (zfo i)).1) i:=by
 obtain ⟨e,k,D⟩:=zaax h hi ho (by omega)
 rw[e]
 obtain ⟨d0,d1,d2,d3,d4,d5,d6,d7,d8,d9,d10,d11,d12,d13,d14⟩:=D
 have hd:=zot d1.ok
 have e2:=zaat (w:=zba w i) (by omega) hi d3
 unfold zuf
 rw[e2]
 have ec:=z7y (w:=zba w i) hi
 have l2:zgw (z0r (zba w i) i):=by rw[← e2];exact zmj d1 (by omega) _ (by rw[e2];exact h.h4)
 have fr2:Fr w (z0r (zba w i) i) i:=(zak7 hi).trans (zak6 hi _)
 have ps:=zaay (w:=zba w i) (w':=z0r (zba w i) i) rfl (fun j hj=>(zac3 hi hj).1)
 have gl:zcb (zc w.p.Links i).Out:=(h.ok.p.lk hi).line
 have g0:=gl.2.2.1;have g1:=gl.2.1
 obtain ⟨p1,p2,p3,p4,p5,pc,p6⟩:=zaph hi 400 (w:=z0r (zba w i) i) l2 (by rw[ec];exact d3) (by
  show (((zc w.p.Links i).Out.Said.length:Nat):Int) - (zc w.p.Links i).Out.Got≤((400:Nat):Int)
  omega) (by omega) (by have z:=congrArg (fun c:Consumer=>c.Seen.Said) ec;exact z.trans (by show (zba w i).heads.PSaid.get i=_;rw[d10.said];exact hs)) d11 (by show (zba w i).heads.CGot.get i≤(zc w.p.Links i).Out.Got;rw[d12];exact Int.le_refl _)
 refine ⟨p1,fr2.trans p2,by rw[p3];exact d10,p4,by omega,?_⟩
 rcases p6 with p6 | ⟨p6,ms,p7,p8⟩
 ·exact .inl p6
 ·refine .inr ⟨by rw[p7,ec];exact d3,p6,k,ms,⟨d0,d1,d2,d3,d4,d5,d6,d7,d8,d9,d10,d11,d12,d13,d14⟩,p8,?_,?_,?_,?_,?_⟩
  ·rw[p7,ec]
   show (za (zba w i).consumers i).Pending++ms=ms
   rw[d4];rfl
  ·rw[p7,ec];exact d5
  ·rw[p7,ec];exact d6
  ·rw[p7,ec];exact d7
  ·have z1:=pc (by rw[p7,ec];exact d3)
   have z2:=(zac3 (w:=zba w i) hi hi).2
   omega
structure za2r (w w':Wld) (i:Int):Prop where
 live:zgw w'
 fr:Fr w w' i
 hp:SameP w.heads w'.heads
 psi:zl1 w'≤zl1 w+3
 rest:∃ k,Done w i k∧(∀ a,a∈w'.p.Queue→a∈w.p.Queue∨(a.C=i∧zcs a.P=0∧pkT a.P∈((za w.consumers i).Out.Said++((z5q w i).take k).map matT).drop (za w.consumers i).Out.Got.toNat)) ∧
  ((za w'.consumers i).On=false∨(zl2 w' i=0∧zke w' i=zke w i∧(zc w'.p.Links i).Told=(zc w.p.Links i).Told∧(zc w'.p.Links i).Fresh=(zc w.p.Links i).Fresh∧(zc w'.p.Links i).Done=(zc w.p.Links i).Done∧(zc w'.p.Links i).Out=(zc w.p.Links i).Out ∧
   (za w'.consumers i).Pending=[]∧(za w'.consumers i).Ripes=(z5q w i).drop k∧sdN w' i=sdN (zba w i) i))
theorem zaw7 {w:Wld} (h:zgw w) {i:Int} (hi:0≤i∧i < 2) (ho:(za w.consumers i).On=true) (hp:zl1 w≤580) (ht:w.heads.PTime.get i=w.clock) (hg:w.heads.PGot.get i≤(za w.consumers i).Out.Got):za2r w (zuf i true (doW w (zfo i)).1) i:=by
 obtain ⟨e,k,D⟩:=zaax h hi ho (by omega)
 rw[e]
 obtain ⟨d0,d1,d2,d3,d4,d5,d6,d7,d8,d9,d10,d11,d12,d13,d14⟩:=D
 have hd:=zot d1.ok
 have e2:=zaas (w:=zba w i) (by omega) hi d3
 unfold zuf
 rw[e2]
 have eL:zc (zi5 (zba w i) i).p.Links i=_:=zgv (L:=w.p.Links) hi hi (z4d (zba w i).heads i)
 rw[if_pos rfl] at eL
 have l2:zgw (zi5 (zba w i) i):=by rw[← e2];exact zmj d1 (by omega) _ (by rw[e2];exact h.h4)
 have fr2:Fr w (zi5 (zba w i) i) i:=(zak7 hi).trans (zak5 hi)
 have ps:=zaay (w:=zba w i) (w':=zi5 (zba w i) i) rfl (fun j hj=>zae7 hi hj)
 have gl:zcb (za (zba w i).consumers i).Out:=(zas (d1.ok.c i hi).good).2.1
 have g0:=gl.2.2.1;have g1:=gl.2.1
 have hs:(zi5 (zba w i) i).p.Links.SSaid.get i=(((za (zba w i).consumers i).Out.Said.length:Nat):Int):=(congrArg (fun c:Link=>c.Seen.Said) eL).trans d13
 obtain ⟨p1,p2,p3,p4,p5,p6⟩:=zapi hi 400 (w:=zi5 (zba w i) i) l2 d3 (by
  show (((za (zba w i).consumers i).Out.Said.length:Nat):Int) - (za (zba w i).consumers i).Out.Got≤((400:Nat):Int)
  omega) (by omega) hs (by show (zba w i).heads.PTime.get i=w.clock;rw[d10.time];exact ht) (by show (zba w i).heads.PGot.get i≤(za (zba w i).consumers i).Out.Got;rw[d10.got,d7];exact hg)
 refine ⟨p1,fr2.trans p2,by rw[p3];exact d10,by omega,k,⟨d0,d1,d2,d3,d4,d5,d6,d7,d8,d9,d10,d11,d12,d13,d14⟩,fun a ha=>?_,?_⟩
 ·rcases p4 a ha with z | ⟨z1,z2,z3⟩
  ·exact .inl z
  ·refine .inr ⟨z1,z2,?_⟩
   have z3:pkT a.P∈(za (zba w i).consumers i).Out.Said.drop (za (zba w i).consumers i).Out.Got.toNat:=z3
   rw[d6,d7] at z3
   exact z3
 ·rcases p6 with p6 | ⟨p6,p7⟩
  ·exact .inl p6
  ·have p7:za (zkf 400 i true (zi5 (zba w i) i)).consumers i={ za (zba w i).consumers i with Out:={ (za (zba w i).consumers i).Out with Got:=(((za (zba w i).consumers i).Out.Said.length:Nat):Int) } }:=p7
   refine .inr ⟨?_,?_,by rw[p6,eL],by rw[p6,eL],by rw[p6,eL],by rw[p6,eL],?_,?_,?_⟩
   ·unfold zl2 sdN;rw[p7]
    show (((za (zba w i).consumers i).Out.Said.length:Nat):Int) - (((za (zba w i).consumers i).Out.Said.length:Nat):Int)=0
    omega
   ·unfold zke;rw[p6,eL]
   ·rw[p7];exact d4
   ·rw[p7];exact d5
   ·unfold sdN;rw[p7]
def zaaz (w:Wld) (i:Int):Wld:=if (za w.consumers i).On=true then zuf i false (doW w (zfo i)).1 else w
def z5r (w:Wld) (i:Int):Wld:=if (za w.consumers i).On=true then zuf i true (doW w (zfo i)).1 else w
def zmk (w:Wld) (i:Int):Wld:=z5r (zaaz w i) i
def z70 (w:Wld) (i:Int):Prop:=(za w.consumers i).Pending=[]∧zke w i=0
structure za2s (w w':Wld) (i:Int):Prop where
 live:zgw w'
 fr:Fr w w' i
 hp:SameP w.heads w'.heads
 psi:zl1 w'≤zl1 w+6
 queue:∀ a,a∈w'.p.Queue→a∈w.p.Queue∨(za w.consumers i).On=true∧(InB w i a∨(a.P.Kind=2∧¬ (z70 w i∧(za w.consumers i).Ripes=[])))
 on:(za w'.consumers i).On=true→(za w.consumers i).On=true∧zke w' i=0∧zl2 w' i=0∧(za w'.consumers i).Pending=[]∧(zc w'.p.Links i).Told=(zc w.p.Links i).Told∧(zc w'.p.Links i).Fresh=(zc w.p.Links i).Fresh∧(zc w'.p.Links i).Done=(zc w.p.Links i).Done ∧
  zq6 w' i≤zq6 w i∧(z70 w i→(∀ r,r∈(za w'.consumers i).Ripes→r∈(za w.consumers i).Ripes)∧(zq6 w i < 400→(∀ r,r∈(za w.consumers i).Ripes→r.Due≤w.clock)→(za w'.consumers i).Ripes=[]))
theorem zak9 {a:Packet} {l:List Ripe} (hg:zcs a=0) (hl:∀ r,r∈l→zjd r=true) (h:pkT a∈l.map matT):a.Kind=2:=by
 obtain ⟨r,hr,e⟩:=List.mem_map.1 h
 have e:pkT (matP r)=pkT a:=e
 rw[← z7v (zyi (hl r hr)) hg e]
 rfl
theorem z5s {w:Wld} (h:zgw w) {i:Int} (hi:0≤i∧i < 2) (hp:zl1 w≤570) (hs:w.heads.PSaid.get i=(((zc w.p.Links i).Out.Said.length:Nat):Int)) (ht:w.heads.PTime.get i=w.clock) (hg:w.heads.PGot.get i≤(za w.consumers i).Out.Got):za2s w (zmk w i) i:=by
 unfold zmk zaaz
 by_cases ho:(za w.consumers i).On=true
 ·rw[if_pos ho]
  have F:=zaw6 h hi ho (by omega) hs
  generalize zuf i false (doW w (zfo i)).1=w1 at F ⊢
  obtain ⟨a1,a2,a3,a4,a5,a6⟩:=F
  unfold z5r
  rcases a6 with a6 | ⟨o1,l1,k,ms,D,m0,r1,r2,r3,r4,rc⟩
  ·rw[if_neg (by rw[a6];simp)]
   exact ⟨a1,a2,a3,by omega,fun a ha=>.inl (a4 a ha),fun z=>by rw[a6] at z;cases z⟩
  ·rw[if_pos o1]
   have B:=zaw7 a1 hi o1 (by omega) (by rw[a3.time,a2.clock];exact ht) (by rw[a3.got,r4];exact hg)
   generalize zuf i true (doW w1 (zfo i)).1=w2 at B ⊢
   obtain ⟨b1,b2,b3,b4,k',D',b5,b6⟩:=B
   have gl:zcb (za w.consumers i).Out:=(zas (h.ok.c i hi).good).2.1
   have g0:=gl.2.2.1;have g1:=gl.2.2.2.1
   have eR:z5q w1 i=(z5q w i).drop k++ms.map (fun p=>(⟨p.Id,w1.clock+15⟩:Ripe)):=by unfold z5q;rw[r1,r2];rfl
   have fw1:zke w1 i=0:=by
    unfold zke;rw[l1]
    show (((zc w.p.Links i).Out.Said.length:Nat):Int) - (((zc w.p.Links i).Out.Said.length:Nat):Int)=0
    omega
   have stR:z70 w i→z5q w i=(za w.consumers i).Ripes∧z5q w1 i=(z5q w i).drop k:=by
    rintro ⟨s1,s2⟩
    refine ⟨by unfold z5q;rw[s1];simp,?_⟩
    rw[eR,m0 s2];simp
   refine ⟨b1,a2.trans b2,a3.trans b3,by omega,fun a ha=>?_,fun hon=>?_⟩
   ·rcases b5 a ha with z | ⟨z1,z2,z3⟩
    ·exact .inl (a4 a z)
    ·refine .inr ⟨ho,?_⟩
     rw[r3,r4,List.append_assoc,List.drop_append_of_le_length (by omega)] at z3
     rcases List.mem_append.1 z3 with z3 | z3
     ·exact .inl ⟨z1,z2,z3⟩
     ·refine .inr ⟨?_,?_⟩
      ·rcases List.mem_append.1 z3 with z3 | z3
       ·exact zak9 z2 (fun r hr=>D.ok r (List.mem_of_mem_take hr)) z3
       ·exact zak9 z2 (fun r hr=>D'.ok r (List.mem_of_mem_take hr)) z3
      ·rintro ⟨s,s3⟩
       obtain ⟨t1,t2⟩:=stR s
       rw[s3] at t1
       rw[t1] at t2 z3
       rw[List.drop_nil] at t2
       rw[t2] at z3
       simp at z3
   ·rcases b6 with b6 | ⟨c1,c2,c3,c4,c5,c6,c7,c8,c9⟩
    ·rw[b6] at hon;cases hon
    ·refine ⟨ho,by rw[c2];exact fw1,c1,c7,by rw[c3,l1],by rw[c4,l1],by rw[c5,l1],?_,fun s=>?_⟩
     ·have n1:zq6 (zba w1 i) i≤zq6 w1 i:=D'.cnt
      have n2:zq6 (zba w i) i≤zq6 w i:=D.cnt
      have e1:zq6 w2 i=zq6 (zba w1 i) i:=by
       unfold zq6
       rw[c9,c2]
       have:zig w2 i=zig (zba w1 i) i:=by unfold zig;rw[c7,c8,D'.pend,D'.ripes]
       rw[this];rfl
      omega
     ·obtain ⟨t1,t2⟩:=stR s
      rw[c8,t2,t1]
      refine ⟨fun r hr=>List.mem_of_mem_drop (List.mem_of_mem_drop hr),fun hc ha=>?_⟩
      have:=D.all (by rw[t1];exact ha) hc
      rw[t1] at this
      rw[this,List.drop_nil]
 ·rw[if_neg ho]
  unfold z5r
  rw[if_neg ho]
  exact ⟨h,.refl _ _,.refl _,by omega,fun a ha=>.inl ha,fun z=>absurd z ho⟩
theorem z5t {s t:Stake} (e:s.Validators=t.Validators):setS s=setS t:=by
 have:nvF s=nvF t:=by funext v;unfold nvF;rw[e]
 unfold setS;rw[this]
def Q2 (w:Wld):Prop:=∀ a,a∈w.p.Queue→a.P.Kind=2
theorem zaa0 {w:Wld} (h:OkW w):zaa w.p=true∧w.p.Time≤w.clock∧w.clock≤1099511627776:=⟨h.pr,h.pt,by have:=h.t1;omega⟩
theorem zaa1 {w:Wld} (h:OkW w):(zay w).p.Set=setS (zay w).p.Stake:=by
 obtain ⟨r1,r2,r3,r4,-⟩:=zin (zaa0 h)
 show (ze9 w.p w.clock).1.Set=setS (ze9 w.p w.clock).1.Stake
 rw[r4,r3]
theorem zahb {w:Wld} (h:zgw w) {i:Int} (hi:0≤i∧i < 2) (ho:(za w.consumers i).On=true) :
  (zc (zay w).p.Links i).Told=(zay w).p.Set∧(zc (zay w).p.Links i).Fresh=false∧(zc (zay w).p.Links i).Done=[]:=by
 have hg:=zaa0 h.ok
 have h4:=h.h4
 obtain ⟨o1,o2,n1,-⟩:=h.one.one i hi ho
 obtain ⟨D',-,hD⟩:=zsd hg hi
 obtain ⟨r1,r2,r3,r4,-⟩:=zin hg
 have hset:zec (fP (ze9 w.p w.clock).1.Set)=(ze9 w.p w.clock).1.Set:=by rw[r4];exact z0a _
 have eO:w.p.Links.On.get i=true:=by rw[← (h.ok.c i hi).on];exact ho
 show (ze9 w.p w.clock).1.Links.Told.get i=(ze9 w.p w.clock).1.Set∧(ze9 w.p w.clock).1.Links.Fresh.get i=false∧(ze9 w.p w.clock).1.Links.Done.get i=[]
 rcases hD with ⟨e1,e2,e3,-,e5⟩ | ⟨e1,e2,e3,-⟩
 ·rw[e1,e2,e3]
  rcases e5 with e5 | e5 | e5 | e5
  ·rw[eO] at e5;cases e5
  ·have a1:=zaet (told:=w.p.Links.Told.get i) hset
   rw[e5.1,zag5 (h.ok.p.lk hi).told] at a1
   exact ⟨a1,e5.2.2,e5.2.1⟩
  ·have e5:(zc w.p.Links i).Out.Closed=true:=e5
   rw[o1] at e5;cases e5
  ·have e5:400≤(zc w.p.Links i).Out.Said.length:=e5
   omega
 ·exact ⟨e1,e3,e2⟩
theorem zac4 {w:Wld} (h:OkW w) {i:Int} (hi:0≤i∧i < 2):(zay w).heads.PSaid.get i=(((zc (zay w).p.Links i).Out.Said.length:Nat):Int)∧(zay w).heads.PTime.get i=w.clock∧(zay w).heads.PGot.get i=(za (zay w).consumers i).Out.Got:=by
 have r2:=(zin (zaa0 h)).2.1
 rcases (show i=0∨i=1 by omega) with rfl | rfl
 ·exact ⟨rfl,r2,rfl⟩
 ·exact ⟨rfl,r2,rfl⟩
theorem zac5 {w:Wld} (h:OkW w) (q:Q2 w) (hs:w.p.Set=setS w.p.Stake) :
  (zay w).p.Queue=[]∧(zay w).p.Stake.Validators=w.p.Stake.Validators∧(zay w).p.Set=w.p.Set ∧
   ∀ i:Int,0≤i∧i < 2→(zc w.p.Links i).Told=w.p.Set→(zc w.p.Links i).Fresh=false→(zc w.p.Links i).Done=[]→(zc (zay w).p.Links i).Out=(zc w.p.Links i).Out:=by
 have hg:=zaa0 h
 obtain ⟨r1,r2,r3,r4,r5,-⟩:=zin hg
 obtain ⟨W,hW⟩:=zaal w.p.Queue (zhg w.p w.clock) q
 have hq:zbp w.p w.clock=({ zhg w.p w.clock with Stake:={ (zhg w.p w.clock).Stake with Waits:=W } },⟨false,false⟩,[]):=hW
 have e1:(zay w).p.Queue=[]:=by
  show (ze9 w.p w.clock).1.Queue=[]
  rw[r5,hq]
 have e2:(zay w).p.Stake.Validators=w.p.Stake.Validators:=by
  show (ze9 w.p w.clock).1.Stake.Validators=_
  rw[zae3 hg,hq];rfl
 have e3:(zay w).p.Set=w.p.Set:=by rw[zaa1 h,hs];exact z5t e2
 refine ⟨e1,e2,e3,fun i hi t1 t2 t3=>?_⟩
 obtain ⟨D',eD,hD⟩:=zsd hg hi
 have ef:zd3 (ze9 w.p w.clock).1.Links i=(zc (zay w).p.Links i).Out:=rfl
 have eg:zd3 w.p.Links i=(zc w.p.Links i).Out:=rfl
 have eS:(ze9 w.p w.clock).1.Set=w.p.Set:=e3
 have eT:w.p.Links.Told.get i=w.p.Set:=t1
 have eF:w.p.Links.Fresh.get i=false:=t2
 have eDn:D'=[]:=by
  rw[eD]
  show (zbp w.p w.clock).1.Links.Done.get i=[]
  rw[hq];exact t3
 rw[ef,eg,eS,eT,eF,eDn] at hD
 rcases hD with ⟨-,-,-,e4,-⟩ | ⟨-,-,-,-,-,-,e7,-,-⟩
 ·exact e4
 ·exact absurd ⟨zaci _,rfl,rfl⟩ e7
structure za2t (w w':Wld):Prop where
 live:zgw w'
 clock:w'.clock=w.clock
 height:w'.p.Height=w.p.Height
 set:w'.p.Set=w.p.Set
 vals:w'.p.Stake.Validators=w.p.Stake.Validators
 waits:NearW w.p.Stake.Waits w'.p.Stake.Waits
 psi:zl1 w'≤zl1 w+12
 queue:∀ a,a∈w'.p.Queue→a∈w.p.Queue∨∃ i:Int,(0≤i∧i < 2)∧(za w.consumers i).On=true∧(InB w i a∨(a.P.Kind=2∧¬ (z70 w i∧(za w.consumers i).Ripes=[])))
 on:∀ i:Int,0≤i∧i < 2→(za w'.consumers i).On=true→(za w.consumers i).On=true∧zke w' i=0∧zl2 w' i=0∧(za w'.consumers i).Pending=[]∧(zc w'.p.Links i).Told=(zc w.p.Links i).Told∧(zc w'.p.Links i).Fresh=(zc w.p.Links i).Fresh∧(zc w'.p.Links i).Done=(zc w.p.Links i).Done ∧
  zq6 w' i≤zq6 w i∧(z70 w i→(∀ r,r∈(za w'.consumers i).Ripes→r∈(za w.consumers i).Ripes)∧(zq6 w i < 400→(∀ r,r∈(za w.consumers i).Ripes→r.Due≤w.clock)→(za w'.consumers i).Ripes=[]))
theorem zala {w:Wld} (h:zgw w) (hp:zl1 w≤560) (hh:∀ i:Int,0≤i∧i < 2→w.heads.PSaid.get i=(((zc w.p.Links i).Out.Said.length:Nat):Int)∧w.heads.PTime.get i=w.clock∧w.heads.PGot.get i=(za w.consumers i).Out.Got):za2t w (zmk (zmk w 0) 1):=by
 obtain ⟨s0,t0,g0⟩:=hh 0 (by omega)
 obtain ⟨s1,t1,g1⟩:=hh 1 (by omega)
 have A:=z5s h (i:=0) (by omega) (by omega) s0 t0 (by omega)
 generalize zmk w 0=u at A ⊢
 obtain ⟨a1,a2,a3,a4,a5,a6⟩:=A
 obtain ⟨c1,l1⟩:=a2.other 1 (by omega) (by omega)
 have B:=z5s a1 (i:=1) (by omega) (by omega) (by rw[a3.said,l1];exact s1) (by rw[a3.time,a2.clock];exact t1) (by rw[a3.got,c1];omega)
 generalize zmk u 1=v at B ⊢
 obtain ⟨b1,b2,b3,b4,b5,b6⟩:=B
 obtain ⟨c0,l0⟩:=b2.other 0 (by omega) (by omega)
 have st:z70 u 1↔z70 w 1:=by unfold z70 zke;rw[c1,l1]
 have cn:zq6 u 1=zq6 w 1:=by unfold zq6 sdN zig zke;rw[c1,l1]
 have cm:zq6 v 0=zq6 u 0:=by unfold zq6 sdN zig zke;rw[c0,l0]
 refine ⟨b1,b2.clock.trans a2.clock,b2.height.trans a2.height,b2.set.trans a2.set,b2.vals.trans a2.vals,a2.waits.trans b2.waits,by omega,fun a ha=>?_,fun i hi ho=>?_⟩
 ·rcases b5 a ha with z | ⟨z0,z⟩
  ·rcases a5 a z with z | ⟨z0,z⟩
   ·exact .inl z
   ·exact .inr ⟨0,by omega,z0,z⟩
  ·rw[st,c1] at z
   rw[c1] at z0
   refine .inr ⟨1,by omega,z0,?_⟩
   rcases z with ⟨z1,z2,z3⟩ | z
   ·rw[c1] at z3;exact .inl ⟨z1,z2,z3⟩
   ·exact .inr z
 ·rcases (show i=0∨i=1 by omega) with rfl | rfl
  ·rw[c0] at ho
   obtain ⟨k1,k2,k3,k4,k5,k6,k7,k8,k9⟩:=a6 ho
   refine ⟨k1,?_,?_,by rw[c0];exact k4,by rw[l0];exact k5,by rw[l0];exact k6,by rw[l0];exact k7,by omega,by rw[c0];exact k9⟩
   ·unfold zke at k2 ⊢;rw[l0];exact k2
   ·unfold zl2 sdN at k3 ⊢;rw[c0];exact k3
  ·obtain ⟨k1,k2,k3,k4,k5,k6,k7,k8,k9⟩:=b6 ho
   rw[c1] at k1 k9
   rw[st,cn,a2.clock] at k9
   exact ⟨k1,k2,k3,k4,by rw[k5,l1],by rw[k6,l1],by rw[k7,l1],by omega,k9⟩
def zyl:Deed:=⟨5,0,0,0,10,false,false⟩
def zuv:Deed:=⟨6,0,0,0,0,false,false⟩
def z0d (w:Wld):Wld:=zmk (zmk (doW (doW w zyl).1 zuv).1 0) 1
theorem zasx {w:Wld} (hd:w.deeds < 600) (hc:(doW w zyl).2.Code=0):(doW w zyl).1=zse w 10:=by
 have e:doW w zyl=z97 (zr w) 10:=by
  unfold doW
  rw[if_neg (by omega)]
  rfl
 rw[e] at hc ⊢
 unfold z97 at hc ⊢
 split
 ·rename_i k;rw[if_pos k] at hc;cases hc
 ·rfl
structure za2u (w:Wld) (i:Int):Prop where
 fwd:zke w i=0
 bck:zl2 w i=0
 pend:(za w.consumers i).Pending=[]
 told:(zc w.p.Links i).Told=w.p.Set
 fresh:(zc w.p.Links i).Fresh=false
 done:(zc w.p.Links i).Done=[]
structure z71 (w:Wld):Prop where
 rest:∀ i:Int,0≤i∧i < 2→(za w.consumers i).On=true→za2u w i
 set:w.p.Set=setS w.p.Stake
def NoR (w:Wld):Prop:=∀ i:Int,0≤i∧i < 2→(za w.consumers i).On=true→(za w.consumers i).Ripes=[]
def DueR (w:Wld) (t:Int):Prop:=∀ i:Int,0≤i∧i < 2→(za w.consumers i).On=true→∀ r,r∈(za w.consumers i).Ripes→r.Due≤t
def CntW (w:Wld) (n:Int):Prop:=∀ i:Int,0≤i∧i < 2→(za w.consumers i).On=true→zq6 w i≤n
def jW (w:Wld):Int:=jN w.p.Stake.Validators
structure zaw8 (w w':Wld) (n:Int):Prop where
 live:zgw w'
 clock:w'.clock=w.clock+10
 height:w'.p.Height=w.p.Height+1
 psi:zl1 w'≤zl1 w+18
 cnt:CntW w' (n+1)
 rest:z71 w'
 waits:NearW w.p.Stake.Waits w'.p.Stake.Waits
 jn:jW w≤jW w'
 q2:z71 w→Q2 w'∨¬ Q2 w∧jW w+1≤jW w'
 due:z71 w→Q2 w→∀ t,DueR w t→DueR w' t
 ripe:z71 w→Q2 w→DueR w (w.clock+10)→NoR w'
 none:z71 w→Q2 w→NoR w→w'.p.Queue=[]
 paid:z71 w→Q2 w→NoR w→(∀ x,x∈w.p.Stake.Waits→x.Due≤w.clock+10)→w'.p.Stake.Waits=[]
theorem z72 {w:Wld} (h:OkW w) {i:Int} (hi:0≤i∧i < 2) (hb:zl2 w i=0):(za w.consumers i).Out.Said.drop (za w.consumers i).Out.Got.toNat=[]:=by
 rw[List.drop_eq_nil_iff]
 unfold zl2 sdN at hb;omega
theorem zae9 {w:Wld} (h:OkW w) {i:Int} (hi:0≤i∧i < 2) (hb:zke w i=0):(zc w.p.Links i).Out.Said.drop (zc w.p.Links i).Out.Got.toNat=[]:=by
 rw[List.drop_eq_nil_iff]
 unfold zke at hb;omega
theorem zaob {w:Wld} (h:zgw w) (hq:w.p.Queue=[]) (hr:∀ i:Int,0≤i∧i < 2→(za w.consumers i).On=true→zke w i=0∧zl2 w i=0∧(za w.consumers i).Pending=[]∧(za w.consumers i).Ripes=[]∧(zc w.p.Links i).Fresh=false) {x:Wait} (hx:x∈w.p.Stake.Waits):x.h0=0∧x.h1=0:=by
 have key:∀ i:Int,0≤i∧i < 2→hN x i=0:=by
  intro i hi
  obtain ⟨-,-,a3,a4⟩:=h.hold x hx
  have l0:=(a3 i hi).1
  by_cases z:0 < hN x i
  ·exfalso
   obtain ⟨ho,k⟩:=a4 i hi z
   obtain ⟨r1,r2,r3,r4,r5⟩:=hr i hi ho
   rcases k with ⟨k1,k2⟩ | ⟨q,k1,k2⟩ | ⟨r,k1,k2⟩ | ⟨q,k0,k1,k2,k3⟩ | ⟨a,k0,k1,k2,k3⟩
   ·rw[r5] at k1;cases k1
   ·rcases k1 with k1 | ⟨-,k1⟩
    ·rw[r3] at k1;cases k1
    ·rw[zae9 h.ok hi r1] at k1;cases k1
   ·rw[r4] at k1;cases k1
   ·rw[z72 h.ok hi r2] at k2;cases k2
   ·rw[hq] at k0;cases k0
  ·omega
 exact ⟨key 0 (by omega),key 1 (by omega)⟩
theorem zahc {w:Wld} {n:Int} (h:zgw w) (hh:w.p.Height < 397) (hp:zl1 w≤550) (hc:CntW w n) (hn:n < 398) (ht:(doW w zyl).2.Code=0):zaw8 w (z0d w) n:=by
 have hd:=zot h.ok
 have e1:=zasx (by omega) ht
 unfold z0d
 rw[e1]
 have l1:zgw (zse w 10):=by rw[← e1];exact zmj h (by omega) _ (by rw[e1];exact h.h4)
 have e2:=zan5 l1.ok (by show w.deeds+1 < 600;omega) (d:=zuv) rfl
 rw[e2]
 have r1:(zay (zse w 10)).p.Height=w.p.Height+1:=(zin (zaa0 l1.ok)).1
 have l2:zgw (zay (zse w 10)):=by rw[← e2];exact zmj l1 (by show w.deeds+1 < 600;omega) _ (by rw[e2,r1];omega)
 have mb:=fun j hj=>z5o l1.ok (i:=j) hj
 have p2:zl1 (zay (zse w 10))≤zl1 w+6:=by
  have m0:=(mb 0 (by omega)).phi
  have m1:=(mb 1 (by omega)).phi
  have n0:zoz (zse w 10) 0=zoz w 0:=rfl
  have n1:zoz (zse w 10) 1=zoz w 1:=rfl
  have dd:(zay (zse w 10)).deeds=w.deeds+1+1:=rfl
  unfold zl1
  omega
 have C:=zala l2 (by omega) (fun i hi=>zac4 l1.ok hi)
 have told:=fun i hi ho=>zahb l1 (i:=i) hi ho
 have bset:=zaa1 l1.ok
 have jall:=zakv (p:=w.p) (now:=w.clock+10) h.ok.pr h.one.met
 have quiet:=zac5 l1.ok
 have eV:(zay (zse w 10)).p.Stake.Validators=(zbp w.p (w.clock+10)).1.Stake.Validators:=zae3 (zaa0 l1.ok)
 have eQ:(zay (zse w 10)).p.Queue=(zbp w.p (w.clock+10)).2.2:=(zin (zaa0 l1.ok)).2.2.2.2.1
 have eW:(zay (zse w 10)).p.Stake.Waits=(zbp w.p (w.clock+10)).1.Stake.Waits.filter (fun x => !z48 (w.clock+10) x):=zaam (zaa0 l1.ok)
 have hnr:NearW w.p.Stake.Waits (zbp w.p (w.clock+10)).1.Stake.Waits:=(zut w.p.Queue (zhg w.p (w.clock+10),⟨false,false⟩,[])).2
 have ecb:∀ i,za (zay (zse w 10)).consumers i=za w.consumers i:=fun _=>rfl
 have eT:(zse w 10).p=w.p:=rfl
 have ebk:∀ i,zl2 (zay (zse w 10)) i=zl2 w i:=fun _=>rfl
 have eck:(zay (zse w 10)).clock=w.clock+10:=rfl
 have mcn:∀ i:Int,0≤i∧i < 2→(za w.consumers i).On=true→zq6 (zay (zse w 10)) i≤zq6 w i+1:=by
  intro i hi ho
  have:=(mb i hi).cnt ho
  rw[if_pos (show (za (zse w 10).consumers i).On=true from ho)] at this
  exact this
 generalize zay (zse w 10)=u at *
 generalize zmk (zmk u 0) 1=v at *
 obtain ⟨c1,c2,c3,c4,c5,c6,c7,c8,c9⟩:=C
 have newQ:z71 w→∀ a,a∈v.p.Queue→a∈u.p.Queue∨a.P.Kind=2:=by
  intro R a ha
  rcases c8 a ha with z | ⟨i,hi,ho,z⟩
  ·exact .inl z
  ·rw[ecb] at ho
   have b0:=(R.rest i hi ho).bck
   rcases z with ⟨-,-,z⟩ | z
   ·rw[ecb,z72 h.ok hi b0] at z;cases z
   ·exact .inr z.1
 have calm:z71 w→Q2 w→u.p.Queue=[]∧∀ i:Int,0≤i∧i < 2→(za w.consumers i).On=true→z70 u i∧(zc u.p.Links i).Fresh=false∧zl2 u i=0:=by
  intro R q
  obtain ⟨q1,q3,q4,q5⟩:=quiet q R.set
  refine ⟨q1,fun i hi ho=>?_⟩
  obtain ⟨x1,x2,x3,x4,x5,x6⟩:=R.rest i hi ho
  refine ⟨⟨by rw[ecb];exact x3,?_⟩,(told i hi ho).2.1,by rw[ebk];exact x2⟩
  unfold zke at x1 ⊢
  rw[q5 i hi x4 x5 x6];exact x1
 refine ⟨c1,by rw[c2,eck],by rw[c3,r1],by omega,fun i hi ho=>?_,⟨fun i hi ho=>?_,by rw[c4,bset];exact z5t c5.symm⟩,?_,?_,fun R=>?_,fun R q t hr i hi ho r hr'=>?_,fun R q hr i hi ho=>?_,fun R q hr=>?_,fun R q hr hdue=>?_⟩
 ·obtain ⟨k1,-,-,-,-,-,-,k8,-⟩:=c9 i hi ho
  rw[ecb] at k1
  have:=mcn i hi k1;have:=hc i hi k1
  omega
 ·obtain ⟨k1,k2,k3,k4,k5,k6,k7,-⟩:=c9 i hi ho
  rw[ecb] at k1
  obtain ⟨t1,t2,t3⟩:=told i hi k1
  exact ⟨k2,k3,k4,by rw[k5,t1,c4],by rw[k6,t2],by rw[k7,t3]⟩
 ·refine NearW.trans ?_ c6
  intro x hx
  rw[eW] at hx
  exact hnr x (List.mem_filter.1 hx).1
 ·unfold jW;rw[c5,eV];exact jall.1
 ·by_cases q:Q2 w
  ·left
   intro a ha
   rcases newQ R a ha with z | z
   ·rw[(calm R q).1] at z;cases z
   ·exact z
  ·rcases jall.2 with z | z
   ·left
    intro a ha
    rcases newQ R a ha with y | y
    ·rw[eQ,z] at y;cases y
    ·exact y
   ·exact .inr ⟨q,by unfold jW;rw[c5,eV];exact z⟩
 ·obtain ⟨k1,-,-,-,-,-,-,-,k9⟩:=c9 i hi ho
  rw[ecb] at k1
  have:=(k9 ((calm R q).2 i hi k1).1).1 r hr'
  rw[ecb] at this
  exact hr i hi k1 r this
 ·obtain ⟨k1,-,-,-,-,-,-,-,k9⟩:=c9 i hi ho
  rw[ecb] at k1
  refine (k9 ((calm R q).2 i hi k1).1).2 (by have:=mcn i hi k1;have:=hc i hi k1;omega) (fun r hr'=>?_)
  rw[ecb] at hr'
  rw[eck]
  exact hr i hi k1 r hr'
 ·obtain ⟨q1,q2⟩:=calm R q
  rw[List.eq_nil_iff_forall_not_mem]
  intro a ha
  rcases c8 a ha with z | ⟨i,hi,ho,z⟩
  ·rw[q1] at z;cases z
  ·rw[ecb] at ho
   obtain ⟨s1,s2,s3⟩:=q2 i hi ho
   rcases z with ⟨-,-,z⟩ | ⟨-,z⟩
   ·rw[ecb,z72 h.ok hi (R.rest i hi ho).bck] at z;cases z
   ·exact z ⟨s1,by rw[ecb];exact hr i hi ho⟩
 ·obtain ⟨q1,q2⟩:=calm R q
  have u0:u.p.Stake.Waits=[]:=by
   rw[List.eq_nil_iff_forall_not_mem]
   intro x hx
   obtain ⟨z0,z1⟩:=zaob l2 q1 (fun i hi ho=>by
    rw[ecb] at ho
    obtain ⟨s1,s2,s3⟩:=q2 i hi ho
    exact ⟨s1.2,s3,s1.1,by rw[ecb];exact hr i hi ho,s2⟩) hx
   rw[eW] at hx
   obtain ⟨hx1,hx2⟩:=List.mem_filter.1 hx
   obtain ⟨y,hy,ny⟩:=hnr x hx1
   have:=hdue y hy
   have d:x.Due≤w.clock+10:=by rw[ny.due];exact this
   unfold z48 at hx2
   rw[z0,z1] at hx2
   simp[d] at hx2
  rw[u0] at c6
  rw[List.eq_nil_iff_forall_not_mem]
  intro x hx
  obtain ⟨y,hy,-⟩:=c6 x hx
  cases hy
structure zqd (w0:Wld) (r:Nat) (w:Wld):Prop where
 live:zgw w
 clock:w.clock=w0.clock+10*(r:Int)
 height:w.p.Height≤60+r
 psi:zl1 w≤300+18*(r:Int)
 cnt:CntW w (60+r)
 rest:1≤r→z71 w
 due:∀ x,x∈w.p.Stake.Waits→x.Due≤w0.clock+20
 j:1≤r→r≤8→Q2 w∨(r:Int) - 1≤jW w
 q:8≤r→Q2 w∧DueR w (w0.clock+95)
 n:10≤r→NoR w
 e:11≤r→w.p.Queue=[]∧w.p.Stake.Waits=[]
theorem zac6 {w0 w:Wld} {r:Nat} (h:zqd w0 r w) (hr:r < 14) (ht:(doW w zyl).2.Code=0):zqd w0 (r+1) (z0d w):=by
 obtain ⟨a1,a2,a3,a4,a5,a6,a7,a8,a9,a10,a11⟩:=h
 have P:=zahc a1 (by omega) (by omega) a5 (by omega) ht
 obtain ⟨b1,b2,b3,b4,b5,b6,b7,b8,b9,b10,b11,b12,b13⟩:=P
 have j':r+1≤8→Q2 (z0d w)∨((r+1:Nat):Int) - 1≤jW (z0d w):=by
  intro h8
  rcases Nat.eq_zero_or_pos r with r0 | r0
  ·subst r0
   right
   have:=(zaw4 (z0d w).p.Stake.Validators).1
   show ((0+1:Nat):Int) - 1≤jN _
   omega
  ·rcases b9 (a6 r0) with z | ⟨z1,z2⟩
   ·exact .inl z
   ·rcases a8 r0 (by omega) with y | y
    ·exact absurd y z1
    ·right;omega
 refine ⟨b1,by rw[b2,a2];omega,by rw[b3];omega,by omega,fun i hi ho=>by have:=b5 i hi ho;omega,fun _=>b6,fun x hx=>?_,fun _=>j',fun h8=>?_,fun h10=>?_,fun h11=>?_⟩
 ·obtain ⟨y,hy,n⟩:=b7 x hx
  rw[n.due];exact a7 y hy
 ·rcases (show r=7∨8≤r by omega) with e | e
  ·refine ⟨?_,fun i hi ho rp hrp=>?_⟩
   ·rcases j' (by omega) with z | z
    ·exact z
    ·have:=(zaw4 (z0d w).p.Stake.Validators).2
     unfold jW at z
     omega
   ·have:=(b1.one.one i hi ho).rip rp hrp
    rw[b2,a2] at this
    omega
  ·obtain ⟨q1,q2⟩:=a9 e
   have R:=a6 (by omega)
   refine ⟨?_,b10 R q1 _ q2⟩
   rcases b9 R with z | ⟨z,-⟩
   ·exact z
   ·exact absurd q1 z
 ·obtain ⟨q1,q2⟩:=a9 (by omega)
  exact b11 (a6 (by omega)) q1 (fun i hi ho rp hrp=>by have:=q2 i hi ho rp hrp;rw[a2];omega)
 ·obtain ⟨q1,q2⟩:=a9 (by omega)
  have R:=a6 (by omega)
  have N:=a10 (by omega)
  exact ⟨b12 R q1 N,b13 R q1 N (fun x hx=>by have:=a7 x hx;rw[a2];omega)⟩
theorem zahd {w0 w:Wld} (h:zqd w0 14 w):w.p.Queue=[]∧w.p.Stake.Waits=[]∧w.p.Stake.Bank.Waiting=0∧∀ i:Int,0≤i∧i < 2→(za w.consumers i).On=true→(za w.consumers i).Set=w.p.Set:=by
 obtain ⟨e1,e2⟩:=h.e (by omega)
 have R:=h.rest (by omega)
 refine ⟨e1,e2,?_,fun i hi ho=>?_⟩
 ·have g:=h.live.ok.p.1.2.2.2.2.2.1
  rw[e2] at g
  exact g.symm
 ·obtain ⟨x1,x2,x3,x4,x5,x6⟩:=R.rest i hi ho
  obtain ⟨ms,m1,m2,m3,m4,m5,m6⟩:=h.live.told i hi ho
  rw[zae9 h.live.ok hi x1] at m1
  have:ms=[]:=List.map_eq_nil_iff.1 m1.symm
  rw[x3,this] at m6
  rw[← x4];exact m6
theorem zaa2 {w:Wld} (h:OkW w) (ht:zag3 w) (ho:OneW w) (hh:HoldW w) (hm:zakz w) (hd:w.deeds≤60):zqd w 0 w:=by
 have hp:=h.ph
 have ph:=hm.phi
 refine ⟨⟨h,ht,ho,hh,by omega⟩,by omega,by omega,by unfold zl1;omega,fun i hi hon=>by have:=hm.cnt i hi hon;omega,fun z=>absurd z (by omega),fun x hx=>(hh x hx).due,fun z=>absurd z (by omega),fun z=>absurd z (by omega),fun z=>absurd z (by omega),fun z=>absurd z (by omega)⟩
theorem z5u {i:Int} {b:Bool}:∀ (n:Nat) {w:Wld},OkW w→OkW (zkf n i b w)
 | 0,w,h=>h
 | n+1,w,h=>by
  unfold zkf
  repeat' split
  ·exact z5u n (zhi h _)
  ·exact zhi (zhi (zhi h _) _) _
  ·exact zhi h _
theorem z3k {i:Int} {b:Bool} {w:Wld} (h:OkW w):OkW (zuf i b w):=z5u 400 (zhi h _)
theorem zasy {w:Wld} (h:OkW w) {i:Int} (hi:0≤i∧i < 2) (b:Bool):0≤(zav w i b).Got∧(zav w i b).Got≤400:=by
 cases b with
 | true =>
  have gl:zcb (zav w i true):=(zas (h.c i hi).good).2.1
  have:=gl.2.2.1;have:=gl.2.2.2.1;have:=gl.2.1
  omega
 | false =>
  have gl:zcb (zav w i false):=(h.p.lk hi).line
  have:=gl.2.2.1;have:=gl.2.2.2.1;have:=gl.2.1
  omega
theorem zafa {i:Int} (hi:0≤i∧i < 2) {b:Bool}:∀ (n k:Nat) {w:Wld},OkW w→k+n=400→∃ s,zcp i b (k:Int) w=some s∧(s=.inl (zkf n i b w)∨s=.inr (zkf n i b w))
 | 0,k,w,h,hk=>by
  refine ⟨.inr w,?_,.inr rfl⟩
  rw[zcp]
  refine zc3 ?_
  simp only[zf2]
  rw[Tr.rf (by simp;omega),Tr.rl]
 | n+1,k,w,h,hk=>by
  have h1:=zhi h (zl i b)
  have hdo:ze (⟨9,i,0,0,0,b,false⟩:Deed) w=some ((doW w (zl i b)).2,(doW w (zl i b)).1):=z0p h (d:=zl i b) (by show (0:Int)≤_;omega)
  by_cases c0:(doW w (zl i b)).2.Code=0
  ·obtain ⟨s,k1,k2⟩:=zafa hi n (k+1) (b:=b) h1 (by omega)
   refine ⟨s,?_,?_⟩
   ·rw[← k1,zcp,zcp]
    refine zca ?_
    simp only[zf2]
    rw[Tr.rt (by simp;omega),Tr.rb hdo,Tr.rt (by simpa using c0),Tr.rl,zy (by omega)]
   ·unfold zkf
    rw[if_pos c0];exact k2
  ·by_cases c1:(doW w (zl i b)).2.Code=12
   ·have h2:=zhi h1 (zgf i (!b))
    obtain ⟨g0,g1⟩:=zasy h1 hi b
    refine ⟨.inl (zkf (n+1) i b w),?_,.inl rfl⟩
    rw[zcp]
    refine zc3 ?_
    simp only[zf2]
    have hdo2:ze (⟨8,i,0,0,0,!b,false⟩:Deed) (doW w (zl i b)).1=some ((doW (doW w (zl i b)).1 (zgf i (!b))).2,(doW (doW w (zl i b)).1 (zgf i (!b))).1):=z0p h1 (d:=zgf i (!b)) (by show (0:Int)≤_;omega)
    have hdo3:ze (⟨10,i,0,0,(zav (doW w (zl i b)).1 i b).Got+1,b,false⟩:Deed) (doW (doW w (zl i b)).1 (zgf i (!b))).1=some ((doW (doW (doW w (zl i b)).1 (zgf i (!b))).1 (zk5 i ((zav (doW w (zl i b)).1 i b).Got+1) b)).2,(doW (doW (doW w (zl i b)).1 (zgf i (!b))).1 (zk5 i ((zav (doW w (zl i b)).1 i b).Got+1) b)).1):=z0p h2 (d:=zk5 i ((zav (doW w (zl i b)).1 i b).Got+1) b) (by show (zav (doW w (zl i b)).1 i b).Got+1≤_;omega)
    have fin:zkf (n+1) i b w=(doW (doW (doW w (zl i b)).1 (zgf i (!b))).1 (zk5 i ((zav (doW w (zl i b)).1 i b).Got+1) b)).1:=by
     conv=>lhs;unfold zkf
     rw[if_neg c0,if_pos c1]
    have hw:i64.wrap ((zav (doW w (zl i b)).1 i b).Got+1)=(zav (doW w (zl i b)).1 i b).Got+1:=zj (by omega) (by omega)
    rw[Tr.rt (by simp;omega),Tr.rb hdo,Tr.rf (by simpa using c0),Tr.rt (by simpa using c1),Tr.rb (zakn h1),Tr.rg hi]
    cases b with
    | true =>
     rw[Tr.rt rfl,Tr.rb (zzn h1 hi),Tr.rb hdo2]
     have hw:i64.wrap ((za (doW w (zl i true)).1.consumers i).Out.Got+1)=(zav (doW w (zl i true)).1 i true).Got+1:=hw
     simp only[hw]
     rw[Tr.rb hdo3,Tr.rl,fin]
    | false =>
     rw[Tr.rf rfl,Tr.rb hdo2]
     have hw:i64.wrap ((doW w (zl i false)).1.p.Links.Got.get i+1)=(zav (doW w (zl i false)).1 i false).Got+1:=hw
     simp only[hw]
     rw[Tr.rb hdo3,Tr.rl,fin]
   ·refine ⟨.inl (zkf (n+1) i b w),?_,.inl rfl⟩
    rw[zcp]
    refine zc3 ?_
    simp only[zf2]
    have fin:zkf (n+1) i b w=(doW w (zl i b)).1:=by
     conv=>lhs;unfold zkf
     rw[if_neg c0,if_neg c1]
    rw[Tr.rt (by simp;omega),Tr.rb hdo,Tr.rf (by simpa using c0),Tr.rf (by simpa using c1),Tr.rl,fin]
theorem zafb {i:Int} (hi:0≤i∧i < 2) {b:Bool} {w:Wld} (h:OkW w):ze6 i b w=some (zuf i b w):=by
 have hdo:ze (⟨8,i,0,0,0,b,false⟩:Deed) w=some ((doW w (zgf i b)).2,(doW w (zgf i b)).1):=z0p h (d:=zgf i b) (by show (0:Int)≤_;omega)
 obtain ⟨s,k1,k2⟩:=zafa hi 400 0 (b:=b) (zhi h (zgf i b)) rfl
 have k1:zcp i b 0 (doW w (zgf i b)).1=some s:=k1
 rw[ze6,zwr,Tr.rb hdo]
 rcases k2 with e | e
 ·rw[e] at k1
  rw[Tr.ri k1,Tr.rl];rfl
 ·rw[e] at k1
  rw[Tr.rj k1,Tr.rl];rfl
theorem zalb {w:Wld} (h:OkW w) (i:Int):OkW (zmk w i):=by
 have h1:OkW (zaaz w i):=by
  unfold zaaz;split
  ·exact z3k (zhi h _)
  ·exact h
 unfold zmk z5r;split
 ·exact z3k (zhi h1 _)
 ·exact h1
theorem z0e {w:Wld} (h:OkW w) (n:Int) {i:Nat} (hi:i < 2):(zbo n (i:Int) w).run=some (.inl (n,((i+1:Nat):Int),zmk w (i:Int))):=by
 have hi':0≤(i:Int)∧(i:Int) < 2:=by omega
 have hdo:∀ {v:Wld},OkW v→ze (⟨7,(i:Int),0,0,0,false,false⟩:Deed) v=some ((doW v (zfo i)).2,(doW v (zfo i)).1):=fun hv=>z0p hv (d:=zfo i) (by show (0:Int)≤_;omega)
 simp only[zbo]
 rw[Tr.rt (by simp;omega),Tr.rb (zzn h hi')]
 unfold zmk zaaz
 cases ho:(za w.consumers (i:Int)).On with
 | true =>
  have h2:=z3k (i:=(i:Int)) (b:=false) (zhi h (zfo i))
  rw[Tr.rt rfl,Tr.rb (hdo h),Tr.rb (zafb hi' (zhi h _)),Tr.rb (zzn h2 hi'),if_pos rfl]
  unfold z5r
  cases ho2:(za (zuf (i:Int) false (doW w (zfo i)).1).consumers (i:Int)).On with
  | true =>
   rw[Tr.rt rfl,Tr.rb (hdo h2),Tr.rb (zafb hi' (zhi h2 _)),Tr.rl,zy (by omega),if_pos rfl]
  | false =>
   rw[Tr.rf rfl,Tr.rl,zy (by omega),if_neg (by simp)]
 | false =>
  rw[Tr.rf rfl,Tr.rb (zzn h hi'),Tr.rf ho,Tr.rl,zy (by omega),if_neg (by simp)]
  unfold z5r
  rw[ho,if_neg (by simp)]
theorem zahe {w:Wld} (h:OkW w) (n:Int):zhq n 0 w=some (n,zmk (zmk w 0) 1):=by
 have h1:=zalb h 0
 have t0:(zbo n 0 w).run=some (.inl (n,1,zmk w 0)):=z0e h n (i:=0) (by omega)
 have t1:(zbo n 1 (zmk w 0)).run=some (.inl (n,2,zmk (zmk w 0) 1)):=z0e h1 n (i:=1) (by omega)
 rw[zhq,zca (s':=(n,1,zmk w 0)) t0,zca (s':=(n,2,zmk (zmk w 0) 1)) t1]
 refine zc3 ?_
 show (zbo n 2 (zmk (zmk w 0) 1)).run=_
 simp only[zbo]
 rw[Tr.rf (by simp),Tr.rl]
theorem zahf {w0:Wld} (h:zqd w0 0 w0):∃ r,zej 0 w0=some r∧(r=.inl true∨∃ v,r=.inr v∧zqd w0 14 v):=by
 have:=zfy (F:=fun s:Int×Wld=>(zdg s.1 s.2).run) 14 (fun i (w:Wld)=>((i:Int),w)) (fun i w=>zqd w0 i w) (fun _ _ r=>r=.inl true∨∃ v,r=.inr v∧zqd w0 14 v) ?_ ?_ 0 w0 (by omega) h
 ·exact this
 ·intro w hw
  refine ⟨.inr w,?_,.inr ⟨w,rfl,hw⟩⟩
  simp only[zdg]
  rw[Tr.rf (by simp),Tr.rl]
 ·intro i w hi hw
  have ok:=hw.live.ok
  have hdo:ze (⟨5,0,0,0,10,false,false⟩:Deed) w=some ((doW w zyl).2,(doW w zyl).1):=z0p ok (d:=zyl) (by show (10:Int)≤_;omega)
  by_cases c:(doW w zyl).2.Code=0
  ·left
   have ok1:=zhi ok zyl
   have hdo1:ze (⟨6,0,0,0,0,false,false⟩:Deed) (doW w zyl).1=some ((doW (doW w zyl).1 zuv).2,(doW (doW w zyl).1 zuv).1):=z0p ok1 (d:=zuv) (by show (0:Int)≤_;omega)
   refine ⟨z0d w,?_,zac6 hw hi c,fun r hr=>hr⟩
   simp only[zdg]
   rw[Tr.rt (by simp;omega),Tr.rb hdo,Tr.rf (by simp[c]),Tr.rb hdo1,Tr.rb (zahe (zhi ok1 zuv) _),Tr.rl,zy (by omega)]
   rfl
  ·right
   refine ⟨.inl true,?_,.inl rfl⟩
   simp only[zdg]
   rw[Tr.rt (by simp;omega),Tr.rb hdo,Tr.rt (by simpa using c),Tr.rl]
theorem zahg {w:Wld} (h:OkW w) (hs:∀ i:Int,0≤i∧i < 2→(za w.consumers i).On=true→(za w.consumers i).Set=w.p.Set):zc2 0 w w.p=some (.inr w.p):=by
 have same:zcg w.p.Set w.p.Set=some true:=zag6 (by have:=zjc h.p.2.2.1 (by omega);omega)
 have turn:∀ (i:Nat),i < 2→(zdh (i:Int) w w.p).run=some (.inl (((i+1:Nat):Int),w,w.p)):=by
  intro i hi
  have hi':0≤(i:Int)∧(i:Int) < 2:=by omega
  simp only[zdh]
  rw[Tr.rt (by simp;omega),Tr.rb (zzn h hi')]
  cases ho:(za w.consumers (i:Int)).On with
  | true =>
   have e:=hs i hi' ho
   simp only[e,same,ho]
   rw[Tr.rg (fun _=>⟨rfl,trivial⟩),Tr.rf (by simp),Tr.rl,zy (by omega)]
  | false =>
   simp only[ho]
   rw[Tr.rg (fun z=>absurd z (by simp)),Tr.rf (by simp),Tr.rl,zy (by omega)]
 rw[zc2,zca (s':=(((1:Nat):Int),w,w.p)) (turn 0 (by omega)),zca (s':=(((2:Nat):Int),w,w.p)) (turn 1 (by omega)),zc3 (r:=.inr w.p) (by
  show (zdh 2 w w.p).run=_
  simp only[zdh]
  rw[Tr.rf (by simp),Tr.rl])]
theorem z5v {l:List Deed} (hl:zakr l) (h60:l.length≤60):∃ w,zm9 l=some (true,w)∧zqd w 0 w:=by
 obtain ⟨w,h1,h2,⟨j1,j2,j3,j4⟩,h3⟩:=zag1 (look:=zgt) (fun w=>zag3 w∧OneW w∧HoldW w∧zakz w) ⟨zan6,zasr,zan9,zak0⟩ hl (fun w d h hj h120=>by
  obtain ⟨j1,j2,j3,j4⟩:=hj
  have:=h.ph
  exact ⟨⟨zaks h (by omega) j1 d,zapg h (by omega) j2 d,zakw h (by omega) (by omega) j2 j3 d,zaoa h (by omega) j4 d⟩,zan3 d _ _⟩)
 have h1:zso l 0 newW=some (.inr w):=h1
 exact ⟨w,by rw[zm9,zt1,Tr.rb zan1,Tr.rf (by rfl),Tr.rb zaki,Tr.rj h1,Tr.rl],zaa2 h2 j1 j2 j3 j4 (by rw[h3];unfold z3e;omega)⟩
theorem z0f {w:Wld} (h:zqd w 0 w):((Tr.two (zej 0 w) (fun v14=>(.leaf v14)) (fun v15 =>
    (.bind (zar v15) fun v16 =>
    (.two (zc2 0 v16.2 v16.1) (fun v18=>(.leaf v18)) (fun v19 =>
     (.leaf (((((v19.Stake.Waits.length:Nat):Int)==0)&&(((v19.Queue.length:Nat):Int)==0))&&(v19.Stake.Bank.Waiting==0))))))):Tr Bool)).run=some true:=by
 obtain ⟨r,k1,k2⟩:=zahf h
 rcases k2 with e | ⟨v,e,k⟩
 ·rw[e] at k1
  rw[Tr.ri k1,Tr.rl]
 ·rw[e] at k1
  obtain ⟨e1,e2,e3,e4⟩:=zahd k
  rw[Tr.rj k1,Tr.rb (zakn k.live.ok),Tr.rj (zahg k.live.ok e4),Tr.rl,e1,e2,e3]
  rfl
theorem z73 {l:List Deed} (hl:zakr l):zg8 l=some true:=by
 have e5:zmq=zej:=rfl
 have e6:zmr=zc2:=rfl
 rw[zg8,zmh]
 by_cases h60:60 < l.length
 ·have h2:zakr (((l.drop 0).take (60 - 0))):=by
   refine ⟨by have:=hl.1;simp only[List.length_take,List.length_drop];omega,fun d hd=>hl.2 d ?_⟩
   exact List.mem_of_mem_drop (List.mem_of_mem_take hd)
  obtain ⟨w,h1,h3⟩:=z5v h2 (by simp only[List.length_take,List.length_drop];omega)
  rw[Tr.rt (by simp;omega),Tr.rg ⟨by omega,by omega,by rw[zud];omega⟩,Tr.rb h1,Tr.rf (by rfl)]
  exact z0f h3
 ·obtain ⟨w,h1,h3⟩:=z5v hl (by omega)
  rw[Tr.rf (by simp;omega),Tr.rb h1,Tr.rf (by rfl),e5,e6]
  exact z0f h3
