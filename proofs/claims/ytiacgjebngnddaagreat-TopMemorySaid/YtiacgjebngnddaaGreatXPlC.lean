/-
  The plain lemmas.
-/
import Derived.Test.YtiacgjebngnddaaGreatXFTop
import Derived.Test.YtiacgjebngnddaaGreatXFWld
import Derived.Test.YtiacgjebngnddaaGreatXPlB
namespace Go.Proofs.YtiacgjebngnddaaGreat.Ab
open Go Go.RowKit
set_option linter.unusedVariables false
set_option linter.unusedSimpArgs false
theorem zrz {l:List Power} (h:l.length*16≤140737488355328):zaq l=some l:=by
 rw[zaq,zm3,Tr.rg (by rw[zar];omega),Tr.rl]
theorem zxm {l:List Int} (h:l.length*8≤140737488355328):zba l=some l:=by
 rw[zba,zlj,Tr.rg (by rw[zhk];omega),Tr.rl]
theorem zagl {p:Packet} (h1:p.Set.length*16≤140737488355328) (h2:p.Done.length*8≤140737488355328):zln p=some p:=by
 rw[zln,zm4,zrz h1,zz9 h2,Tr.rg (by rfl),Tr.rg (by rfl),Tr.rl];rfl
theorem z72 {l:zcd} (h1:l.Said.length*16≤140737488355328) (h2:l.Due.length*8≤140737488355328):zy l=some l:=by
 rw[zy,zll,zxm h2,Tr.rg (by show (0+l.Said.length)*16≤_;omega),Tr.rg (by rfl),Tr.rl];rfl
theorem zaaj {w:Wld} (hf:FitPr 140737488351232 w.p):z8 w=some (w.p,w):=by
 have hw:=hf.waits;have hs:=hf.set;have hq:=hf.queue
 have t0:w.p.Links.Told.x0.length*16≤140737488351232:=hf.told 0
 have t1:w.p.Links.Told.x1.length*16≤140737488351232:=hf.told 1
 have d0:w.p.Links.Done.x0.length*8≤140737488351232:=hf.done 0
 have d1:w.p.Links.Done.x1.length*8≤140737488351232:=hf.done 1
 have s0:w.p.Links.Said.x0.length*16≤140737488351232:=hf.said 0
 have s1:w.p.Links.Said.x1.length*16≤140737488351232:=hf.said 1
 have u0:w.p.Links.Due.x0.length*8≤140737488351232:=hf.due 0
 have u1:w.p.Links.Due.x1.length*8≤140737488351232:=hf.due 1
 have l2:∀ z q,zdi w.p.Queue w.p.Queue.length 0 w z q []=some (w,z,q,w.p.Queue):=by
  intro z q
  rw[zdi]
  have:=zlq (F:=fun s:(List Asked)×Int×Int×Wld×za×za×(List Asked)=>(za2 s.1 s.2.1 s.2.2.1 s.2.2.2.1 s.2.2.2.2.1 s.2.2.2.2.2.1 s.2.2.2.2.2.2).run) w.p.Queue.length (fun i t=>(w.p.Queue,(w.p.Queue.length:Int),(i:Int),w,z,q,t)) (fun i t=>t=w.p.Queue.take i) (fun _ _=>(w,z,q,w.p.Queue)) ?_ ?_ 0 [] (Nat.zero_le _) rfl
  ·exact this
  ·rintro t rfl
   simp only[za2];rw[Tr.rf (by simp),Tr.rl,List.take_length]
  ·rintro i t hi ht
   obtain ⟨p1,p2⟩:=hf.ps _ (zgv (l:=w.p.Queue) (k:=i) hi default)
   have htl:t.length≤i:=by rw[ht,List.length_take];omega
   refine .inl ⟨t++[w.p.Queue.getD i default],?_,by rw[ht,zju hi default],by trivial⟩
   simp only[za2,yy4]
   rw[Tr.rt (by simpa using hi),Tr.rg ⟨by omega,by rw[zfm];omega⟩,zaaf (by omega) (by omega),Tr.rg (by rfl),Tr.rg (by simp only[zfm,yy5];omega),Tr.rl,zq (by omega)]
   rfl
 rw[z8,zfa,Tr.rg (by rw[zbc];omega),Tr.rb (zrz (by omega)),zrz (by omega),zxm (by omega),z72 (by show w.p.Links.Said.x0.length*16≤_;omega) (by show w.p.Links.Due.x0.length*8≤_;omega),
  zrz (by omega),zxm (by omega),z72 (by show w.p.Links.Said.x1.length*16≤_;omega) (by show w.p.Links.Due.x1.length*8≤_;omega)]
 iterate 6 rw[Tr.rg (by rfl)]
 rw[Tr.rb (v:=(w,default,w.p,w.p.Queue)) (by exact l2 default w.p),Tr.rl]
theorem zaak {w:Wld} {i:Int} (hi:0≤i∧i < 2) (hf:FitC 140737488351232 (zc w.consumers i)):z9 i w=some (zc w.consumers i,w):=by
 rw[z9,zfb]
 have e1:=zrz (l:=w.consumers.Set.get i) (by have:(w.consumers.Set.get i).length*16≤_:=hf.set;omega)
 have e3:=z72 (l:=(zc w.consumers i).Out) (by have:=hf.said;omega) (by have:=hf.due;omega)
 have hr:(w.consumers.Ripes.get i).length*16≤140737488351232:=hf.ripes
 have hp:(w.consumers.Pending.get i).length*80≤140737488351232:=hf.pend
 have l1:∀ z q,zdj (w.consumers.Pending.get i) (w.consumers.Pending.get i).length 0 w z q []=some (w,z,q,w.consumers.Pending.get i):=by
  intro z q
  have hps:∀ p,p∈w.consumers.Pending.get i→p.Set.length*16≤140737488351232∧p.Done.length*8≤140737488351232:=hf.ps
  generalize w.consumers.Pending.get i=l at *
  rw[zdj]
  have:=zlq (F:=fun s:(List Packet)×Int×Int×Wld×zb×zb×(List Packet)=>(za3 s.1 s.2.1 s.2.2.1 s.2.2.2.1 s.2.2.2.2.1 s.2.2.2.2.2.1 s.2.2.2.2.2.2).run) l.length (fun i t=>(l,(l.length:Int),(i:Int),w,z,q,t)) (fun i t=>t=l.take i) (fun _ _=>(w,z,q,l)) ?_ ?_ 0 [] (Nat.zero_le _) rfl
  ·exact this
  ·rintro t rfl
   simp only[za3];rw[Tr.rf (by simp),Tr.rl,List.take_length]
  ·rintro k t hk ht
   obtain ⟨p1,p2⟩:=hps _ (zgv (l:=l) (k:=k) hk default)
   have htl:t.length≤k:=by rw[ht,List.length_take];omega
   refine .inl ⟨t++[l.getD k default],?_,by rw[ht,zju hk default],by trivial⟩
   simp only[za3,yy4]
   rw[Tr.rt (by simpa using hk),Tr.rg ⟨by omega,by rw[zeo];omega⟩,Tr.rb (zagl (by omega) (by omega)),Tr.rg (by simp only[yy5];omega),Tr.rl,zq (by omega)]
 rw[Tr.rf (by simp;omega),Tr.rg hi,e1,e3,Tr.rg (by rfl),Tr.rg (by rfl),Tr.rg (by rw[zjs];omega)]
 simp only[yy2]
 rw[Tr.rb (v:=(w,default,zc w.consumers i,w.consumers.Pending.get i)) (by exact l1 default _),Tr.rl]
 rfl
structure LenP (p q:za):Prop where
 l1:q.Stake.Waits.length=p.Stake.Waits.length
 l2:q.Set.length=p.Set.length
 l3:q.Links.Told.x0.length=p.Links.Told.x0.length
 l4:q.Links.Done.x0.length=p.Links.Done.x0.length
 l5:q.Links.Said.x0.length=p.Links.Said.x0.length
 l6:q.Links.Told.x1.length=p.Links.Told.x1.length
 l7:q.Links.Done.x1.length=p.Links.Done.x1.length
 l8:q.Links.Said.x1.length=p.Links.Said.x1.length
 l9:q.Queue.length=p.Queue.length
 l10:q.Links.Due.x0.length=p.Links.Due.x0.length
 l11:q.Links.Due.x1.length=p.Links.Due.x1.length
structure LenC (c e:zb):Prop where
 l1:e.Set.length=c.Set.length
 l2:e.Pending=c.Pending
 l3:e.Ripes.length=c.Ripes.length
 l4:e.Out.Said.length=c.Out.Said.length
theorem LenP.refl (p:za):LenP p p:=⟨rfl,rfl,rfl,rfl,rfl,rfl,rfl,rfl,rfl,rfl,rfl⟩
theorem LenC.refl (c:zb):LenC c c:=⟨rfl,rfl,rfl,rfl⟩
theorem zaxu {p0 p:za} (w o:Wld) (h:LenP p0 p) (hn:p0.Stake.Waits.length≤4611686018427387904):∃ q,zha ((p.Stake.Waits.length:Nat):Int) 0 w o p=some (w,o,q)∧LenP p0 q:=by
 rw[zha,h.l1]
 refine zdy (F:=fun s:Int×Int×Wld×Wld×za=>(zc7 s.1 s.2.1 s.2.2.1 s.2.2.2.1 s.2.2.2.2).run) p0.Stake.Waits.length (fun i q=>(((p0.Stake.Waits.length:Nat):Int),(i:Int),w,o,q)) (fun _ q=>LenP p0 q) (fun q=>(w,o,q)) ?_ ?_ h
 ·intro q hq
  simp only[zc7];rw[Tr.rf (by simp),Tr.rl]
 ·intro i q hi hq
  have e:=hq.l1
  refine ⟨?_,?_,?_⟩
  rotate_left
  ·simp only[zc7]
   rw[Tr.rt (by simpa using hi),Tr.rg ⟨by omega,by show (i:Int) < ((q.Stake.Waits.length:Nat):Int);omega⟩,Tr.rl,zq (by omega)]
  ·exact ⟨(List.length_set ..).trans hq.l1,hq.l2,hq.l3,hq.l4,hq.l5,hq.l6,hq.l7,hq.l8,hq.l9,hq.l10,hq.l11⟩
theorem zaxv {p0 p:za} (w o:Wld) (h:LenP p0 p) (hn:p0.Set.length≤4611686018427387904):∃ q,zhb ((p.Set.length:Nat):Int) 0 w o p=some (w,o,q)∧LenP p0 q:=by
 rw[zhb,h.l2]
 refine zdy (F:=fun s:Int×Int×Wld×Wld×za=>(zc8 s.1 s.2.1 s.2.2.1 s.2.2.2.1 s.2.2.2.2).run) p0.Set.length (fun i q=>(((p0.Set.length:Nat):Int),(i:Int),w,o,q)) (fun _ q=>LenP p0 q) (fun q=>(w,o,q)) ?_ ?_ h
 ·intro q hq
  simp only[zc8];rw[Tr.rf (by simp),Tr.rl]
 ·intro i q hi hq
  have e:=hq.l2
  refine ⟨?_,?_,?_⟩
  rotate_left
  ·simp only[zc8]
   rw[Tr.rt (by simpa using hi),Tr.rg ⟨by omega,by show (i:Int) < ((q.Set.length:Nat):Int);omega⟩,Tr.rl,zq (by omega)]
  ·exact ⟨hq.l1,(List.length_set ..).trans hq.l2,hq.l3,hq.l4,hq.l5,hq.l6,hq.l7,hq.l8,hq.l9,hq.l10,hq.l11⟩
theorem zaxw {p0 p:za} (w o:Wld) (h:LenP p0 p) (hn:p0.Links.Told.x0.length≤4611686018427387904):∃ q,zhc ((p.Links.Told.x0.length:Nat):Int) 0 w o p=some (w,o,q)∧LenP p0 q:=by
 rw[zhc,h.l3]
 refine zdy (F:=fun s:Int×Int×Wld×Wld×za=>(zc9 s.1 s.2.1 s.2.2.1 s.2.2.2.1 s.2.2.2.2).run) p0.Links.Told.x0.length (fun i q=>(((p0.Links.Told.x0.length:Nat):Int),(i:Int),w,o,q)) (fun _ q=>LenP p0 q) (fun q=>(w,o,q)) ?_ ?_ h
 ·intro q hq
  simp only[zc9];rw[Tr.rf (by simp),Tr.rl]
 ·intro i q hi hq
  have e:=hq.l3
  refine ⟨?_,?_,?_⟩
  rotate_left
  ·simp only[zc9]
   rw[Tr.rt (by simpa using hi),Tr.rg ⟨by omega,by show (i:Int) < ((q.Links.Told.x0.length:Nat):Int);omega⟩,Tr.rl,zq (by omega)]
  ·exact ⟨hq.l1,hq.l2,(List.length_set ..).trans hq.l3,hq.l4,hq.l5,hq.l6,hq.l7,hq.l8,hq.l9,hq.l10,hq.l11⟩
theorem zaxx {p0 p:za} (w o:Wld) (h:LenP p0 p) (hn:p0.Links.Done.x0.length≤4611686018427387904):∃ q,zhd ((p.Links.Done.x0.length:Nat):Int) 0 w o p=some (w,o,q)∧LenP p0 q:=by
 rw[zhd,h.l4]
 refine zdy (F:=fun s:Int×Int×Wld×Wld×za=>(zda s.1 s.2.1 s.2.2.1 s.2.2.2.1 s.2.2.2.2).run) p0.Links.Done.x0.length (fun i q=>(((p0.Links.Done.x0.length:Nat):Int),(i:Int),w,o,q)) (fun _ q=>LenP p0 q) (fun q=>(w,o,q)) ?_ ?_ h
 ·intro q hq
  simp only[zda];rw[Tr.rf (by simp),Tr.rl]
 ·intro i q hi hq
  have e:=hq.l4
  refine ⟨?_,?_,?_⟩
  rotate_left
  ·simp only[zda]
   rw[Tr.rt (by simpa using hi),Tr.rg ⟨by omega,by show (i:Int) < ((q.Links.Done.x0.length:Nat):Int);omega⟩,Tr.rl,zq (by omega)]
  ·exact ⟨hq.l1,hq.l2,hq.l3,(List.length_set ..).trans hq.l4,hq.l5,hq.l6,hq.l7,hq.l8,hq.l9,hq.l10,hq.l11⟩
theorem zaxy {p0 p:za} (w o:Wld) (h:LenP p0 p) (hn:p0.Links.Said.x0.length≤4611686018427387904) (hd:p0.Links.Said.x0.length=p0.Links.Due.x0.length):∃ q,zhe ((p.Links.Said.x0.length:Nat):Int) 0 w o p=some (w,o,q)∧LenP p0 q:=by
 rw[zhe,h.l5]
 refine zdy (F:=fun s:Int×Int×Wld×Wld×za=>(zdb s.1 s.2.1 s.2.2.1 s.2.2.2.1 s.2.2.2.2).run) p0.Links.Said.x0.length (fun i q=>(((p0.Links.Said.x0.length:Nat):Int),(i:Int),w,o,q)) (fun _ q=>LenP p0 q) (fun q=>(w,o,q)) ?_ ?_ h
 ·intro q hq
  simp only[zdb];rw[Tr.rf (by simp),Tr.rl]
 ·intro i q hi hq
  have e:=hq.l5
  have e2:=hq.l10
  refine ⟨?_,?_,?_⟩
  rotate_left
  ·simp only[zdb]
   rw[Tr.rt (by simpa using hi),Tr.rg ⟨by omega,by show (i:Int) < ((q.Links.Said.x0.length:Nat):Int);omega⟩,Tr.rg ⟨by omega,by show (i:Int) < ((q.Links.Due.x0.length:Nat):Int);omega⟩,Tr.rl,zq (by omega)]
  ·exact ⟨hq.l1,hq.l2,hq.l3,hq.l4,(List.length_set ..).trans hq.l5,hq.l6,hq.l7,hq.l8,hq.l9,(List.length_set ..).trans hq.l10,hq.l11⟩
theorem zaxz {p0 p:za} (w o:Wld) (h:LenP p0 p) (hn:p0.Links.Told.x1.length≤4611686018427387904):∃ q,zhf ((p.Links.Told.x1.length:Nat):Int) 0 w o p=some (w,o,q)∧LenP p0 q:=by
 rw[zhf,h.l6]
 refine zdy (F:=fun s:Int×Int×Wld×Wld×za=>(zdc s.1 s.2.1 s.2.2.1 s.2.2.2.1 s.2.2.2.2).run) p0.Links.Told.x1.length (fun i q=>(((p0.Links.Told.x1.length:Nat):Int),(i:Int),w,o,q)) (fun _ q=>LenP p0 q) (fun q=>(w,o,q)) ?_ ?_ h
 ·intro q hq
  simp only[zdc];rw[Tr.rf (by simp),Tr.rl]
 ·intro i q hi hq
  have e:=hq.l6
  refine ⟨?_,?_,?_⟩
  rotate_left
  ·simp only[zdc]
   rw[Tr.rt (by simpa using hi),Tr.rg ⟨by omega,by show (i:Int) < ((q.Links.Told.x1.length:Nat):Int);omega⟩,Tr.rl,zq (by omega)]
  ·exact ⟨hq.l1,hq.l2,hq.l3,hq.l4,hq.l5,(List.length_set ..).trans hq.l6,hq.l7,hq.l8,hq.l9,hq.l10,hq.l11⟩
theorem zax0 {p0 p:za} (w o:Wld) (h:LenP p0 p) (hn:p0.Links.Done.x1.length≤4611686018427387904):∃ q,zhg ((p.Links.Done.x1.length:Nat):Int) 0 w o p=some (w,o,q)∧LenP p0 q:=by
 rw[zhg,h.l7]
 refine zdy (F:=fun s:Int×Int×Wld×Wld×za=>(zdd s.1 s.2.1 s.2.2.1 s.2.2.2.1 s.2.2.2.2).run) p0.Links.Done.x1.length (fun i q=>(((p0.Links.Done.x1.length:Nat):Int),(i:Int),w,o,q)) (fun _ q=>LenP p0 q) (fun q=>(w,o,q)) ?_ ?_ h
 ·intro q hq
  simp only[zdd];rw[Tr.rf (by simp),Tr.rl]
 ·intro i q hi hq
  have e:=hq.l7
  refine ⟨?_,?_,?_⟩
  rotate_left
  ·simp only[zdd]
   rw[Tr.rt (by simpa using hi),Tr.rg ⟨by omega,by show (i:Int) < ((q.Links.Done.x1.length:Nat):Int);omega⟩,Tr.rl,zq (by omega)]
  ·exact ⟨hq.l1,hq.l2,hq.l3,hq.l4,hq.l5,hq.l6,(List.length_set ..).trans hq.l7,hq.l8,hq.l9,hq.l10,hq.l11⟩
theorem zax1 {p0 p:za} (w o:Wld) (h:LenP p0 p) (hn:p0.Links.Said.x1.length≤4611686018427387904) (hd:p0.Links.Said.x1.length=p0.Links.Due.x1.length):∃ q,zhh ((p.Links.Said.x1.length:Nat):Int) 0 w o p=some (w,o,q)∧LenP p0 q:=by
 rw[zhh,h.l8]
 refine zdy (F:=fun s:Int×Int×Wld×Wld×za=>(zde s.1 s.2.1 s.2.2.1 s.2.2.2.1 s.2.2.2.2).run) p0.Links.Said.x1.length (fun i q=>(((p0.Links.Said.x1.length:Nat):Int),(i:Int),w,o,q)) (fun _ q=>LenP p0 q) (fun q=>(w,o,q)) ?_ ?_ h
 ·intro q hq
  simp only[zde];rw[Tr.rf (by simp),Tr.rl]
 ·intro i q hi hq
  have e:=hq.l8
  have e2:=hq.l11
  refine ⟨?_,?_,?_⟩
  rotate_left
  ·simp only[zde]
   rw[Tr.rt (by simpa using hi),Tr.rg ⟨by omega,by show (i:Int) < ((q.Links.Said.x1.length:Nat):Int);omega⟩,Tr.rg ⟨by omega,by show (i:Int) < ((q.Links.Due.x1.length:Nat):Int);omega⟩,Tr.rl,zq (by omega)]
  ·exact ⟨hq.l1,hq.l2,hq.l3,hq.l4,hq.l5,hq.l6,hq.l7,(List.length_set ..).trans hq.l8,hq.l9,hq.l10,(List.length_set ..).trans hq.l11⟩
theorem zax2 {p0 p:za} (w o:Wld) (h:LenP p0 p) (hn:p0.Queue.length≤4611686018427387904):zhi ((p.Queue.length:Nat):Int) 0 w o p=some (w,o):=by
 rw[zhi,h.l9]
 have this:=zdy (F:=fun s:Int×Int×Wld×Wld×za=>(zdf s.1 s.2.1 s.2.2.1 s.2.2.2.1 s.2.2.2.2).run) p0.Queue.length (fun i q=>(((p0.Queue.length:Nat):Int),(i:Int),w,o,q)) (fun _ q=>LenP p0 q) (fun q=>(w,o)) ?_ ?_ h
 ·obtain ⟨_,h1,_⟩:=this;exact h1
 ·intro q hq
  simp only[zdf];rw[Tr.rf (by simp),Tr.rl]
 ·intro i q hi hq
  have e:=hq.l9
  refine ⟨?_,?_,?_⟩
  rotate_left
  ·simp only[zdf]
   rw[Tr.rt (by simpa using hi),Tr.rg ⟨by omega,by show (i:Int) < ((q.Queue.length:Nat):Int);omega⟩,Tr.rl,zq (by omega)]
  ·exact ⟨hq.l1,hq.l2,hq.l3,hq.l4,hq.l5,hq.l6,hq.l7,hq.l8,(List.length_set ..).trans hq.l9,hq.l10,hq.l11⟩
theorem zar1 {c0 c:zb} (k:Int) (w o:Wld) (h:LenC c0 c) (hn:c0.Set.length≤4611686018427387904):∃ e,zgk k ((c.Set.length:Nat):Int) 0 w o c=some (k,w,o,e)∧LenC c0 e:=by
 rw[zgk,h.l1]
 refine zdy (F:=fun s:Int×Int×Int×Wld×Wld×zb=>(zco s.1 s.2.1 s.2.2.1 s.2.2.2.1 s.2.2.2.2.1 s.2.2.2.2.2).run) c0.Set.length (fun i e=>(k,((c0.Set.length:Nat):Int),(i:Int),w,o,e)) (fun _ e=>LenC c0 e) (fun e=>(k,w,o,e)) ?_ ?_ h
 ·intro e he
  simp only[zco];rw[Tr.rf (by simp),Tr.rl]
 ·intro i e hi he
  have z:=he.l1
  refine ⟨?_,?_,?_⟩
  rotate_left
  ·simp only[zco]
   rw[Tr.rt (by simpa using hi),Tr.rg ⟨by omega,by show (i:Int) < ((e.Set.length:Nat):Int);omega⟩,Tr.rl,zq (by omega)]
  ·exact ⟨(List.length_set ..).trans he.l1,he.l2,he.l3,he.l4⟩
theorem zar2 {c0 c:zb} (k:Int) (w o:Wld) (h:LenC c0 c) (hn:c0.Ripes.length≤4611686018427387904):∃ e,zgn k ((c.Ripes.length:Nat):Int) 0 w o c=some (k,w,o,e)∧LenC c0 e:=by
 rw[zgn,h.l3]
 refine zdy (F:=fun s:Int×Int×Int×Wld×Wld×zb=>(zcr s.1 s.2.1 s.2.2.1 s.2.2.2.1 s.2.2.2.2.1 s.2.2.2.2.2).run) c0.Ripes.length (fun i e=>(k,((c0.Ripes.length:Nat):Int),(i:Int),w,o,e)) (fun _ e=>LenC c0 e) (fun e=>(k,w,o,e)) ?_ ?_ h
 ·intro e he
  simp only[zcr];rw[Tr.rf (by simp),Tr.rl]
 ·intro i e hi he
  have z:=he.l3
  refine ⟨?_,?_,?_⟩
  rotate_left
  ·simp only[zcr]
   rw[Tr.rt (by simpa using hi),Tr.rg ⟨by omega,by show (i:Int) < ((e.Ripes.length:Nat):Int);omega⟩,Tr.rl,zq (by omega)]
  ·exact ⟨he.l1,he.l2,(List.length_set ..).trans he.l3,he.l4⟩
theorem zar3 {c0 c:zb} (k:Int) (w o:Wld) (h:LenC c0 c) (hn:c0.Out.Said.length≤4611686018427387904):zgo k ((c.Out.Said.length:Nat):Int) 0 w o c=some (k,w,o):=by
 rw[zgo,h.l4]
 have this:=zdy (F:=fun s:Int×Int×Int×Wld×Wld×zb=>(zcs s.1 s.2.1 s.2.2.1 s.2.2.2.1 s.2.2.2.2.1 s.2.2.2.2.2).run) c0.Out.Said.length (fun i e=>(k,((c0.Out.Said.length:Nat):Int),(i:Int),w,o,e)) (fun _ e=>LenC c0 e) (fun e=>(k,w,o)) ?_ ?_ h
 ·obtain ⟨_,h1,_⟩:=this;exact h1
 ·intro e he
  simp only[zcs];rw[Tr.rf (by simp),Tr.rl]
 ·intro i e hi he
  have z:=he.l4
  refine ⟨?_,?_,?_⟩
  rotate_left
  ·simp only[zcs]
   rw[Tr.rt (by simpa using hi),Tr.rg ⟨by omega,by show (i:Int) < ((e.Out.Said.length:Nat):Int);omega⟩,Tr.rl,zq (by omega)]
  ·exact ⟨he.l1,he.l2,he.l3,(List.length_set ..).trans he.l4⟩
theorem zar4 (a b d e n:Int) (w o:Wld) {c:zb} (hb:0≤b∧b < ((c.Pending.length:Nat):Int)) (hn:(c.Pending.getD b.toNat default).Set.length≤4611686018427387904) :
  zgl a b d e (((c.Pending.getD b.toNat default).Set.length:Nat):Int) 0 w o c=some (a,b,d,e,w,o,c):=by
 rw[zgl]
 have this:=zdy (F:=fun s:Int×Int×Int×Int×Int×Int×Wld×Wld×zb=>(zcp s.1 s.2.1 s.2.2.1 s.2.2.2.1 s.2.2.2.2.1 s.2.2.2.2.2.1 s.2.2.2.2.2.2.1 s.2.2.2.2.2.2.2.1 s.2.2.2.2.2.2.2.2).run) (c.Pending.getD b.toNat default).Set.length
  (fun i (_:Unit)=>(a,b,d,e,(((c.Pending.getD b.toNat default).Set.length:Nat):Int),(i:Int),w,o,c)) (fun _ _=>True) (fun _=>(a,b,d,e,w,o,c)) ?_ ?_ (t:=()) trivial
 ·obtain ⟨_,h1,_⟩:=this;exact h1
 ·intro _ _
  simp only[zcp];rw[Tr.rf (by simp),Tr.rl]
 ·intro i _ hi _
  refine ⟨(),?_,trivial⟩
  simp only[zcp]
  rw[Tr.rt (by simpa using hi),Tr.rg hb,Tr.rg ⟨by omega,by omega⟩,Tr.rl,zq (by omega)]
theorem zar5 (k:Int) (w o:Wld) {c:zb} (hn:c.Pending.length≤4611686018427387904) (hs:∀ p,p∈c.Pending→p.Set.length≤4611686018427387904) :
  zgm k ((c.Pending.length:Nat):Int) 0 w o c=some (k,w,o,c):=by
 rw[zgm]
 have this:=zdy (F:=fun s:Int×Int×Int×Wld×Wld×zb=>(zcq s.1 s.2.1 s.2.2.1 s.2.2.2.1 s.2.2.2.2.1 s.2.2.2.2.2).run) c.Pending.length
  (fun i (_:Unit)=>(k,((c.Pending.length:Nat):Int),(i:Int),w,o,c)) (fun _ _=>True) (fun _=>(k,w,o,c)) ?_ ?_ (t:=()) trivial
 ·obtain ⟨_,h1,_⟩:=this;exact h1
 ·intro _ _
  simp only[zcq];rw[Tr.rf (by simp),Tr.rl]
 ·intro i _ hi _
  refine ⟨(),?_,trivial⟩
  have hb:0≤(i:Int)∧(i:Int) < ((c.Pending.length:Nat):Int):=by omega
  simp only[zcq]
  rw[Tr.rt (by simpa using hi),Tr.rg hb,Tr.rb (zar4 k i ((c.Pending.length:Nat):Int) i 0 w o hb (by rw[yy4];exact hs _ (zgv hi default)))]
  simp only[]
  rw[Tr.rg hb,Tr.rl,zq (by omega)]
theorem zaej {w:Wld} (h:OkW w) {i:Nat} (hi:i < 2):(zbo (i:Int) w w).run=some (.inl (((i+1:Nat):Int),w,w)):=by
 have hi':0≤(i:Int)∧(i:Int) < 2:=by omega
 have hf:=h.cfit hi'
 have h1:=hf.set;have h2:=hf.pend;have h3:=hf.ripes;have h4:=hf.said
 have hc:=zaak hi' hf
 simp only[zbo]
 rw[Tr.rt (by simp;omega),Tr.rb hc]
 simp only[hc,yy2]
 rw[zagj hf,Tr.rg (by rfl),Tr.rg (by rfl),Tr.rf (by rfl)]
 obtain ⟨c1,e1,k1⟩:=zar1 (i:Int) w w (LenC.refl (zc w.consumers i)) (by omega)
 rw[Tr.rb e1]
 simp only[]
 have p2:=k1.l2
 have e2:=zar5 (i:Int) w w (c:=c1) (by rw[p2];omega) (by rw[p2];intro p hp;have:=(hf.ps p hp).1;omega)
 rw[Tr.rb e2]
 simp only[]
 obtain ⟨c2,e3,k2⟩:=zar2 (i:Int) w w k1 (by omega)
 rw[Tr.rb e3]
 simp only[]
 rw[Tr.rb (zar3 (i:Int) w w k2 (by omega)),Tr.rl]
 simp only[]
 rw[zq (by omega)]
theorem zanf {w:Wld} (h:OkW w) {d:Deed} (hd:d.N≤9223372036854775807):zbb d (doW w d).2 (doW w d).1 w=some (true,(doW w d).1,(doW w d).1):=by
 have ho:=z5z h d
 have hdo:=zagh h hd
 generalize (doW w d).1=v at *
 generalize (doW w d).2=r at *
 have hf:=ho.fit
 have hp:=zaaj hf
 have g0:v.p.Links.Said.x0.length=v.p.Links.Due.x0.length:=(ho.p.lk (c:=0) (by omega)).line.1
 have g1:v.p.Links.Said.x1.length=v.p.Links.Due.x1.length:=(ho.p.lk (c:=1) (by omega)).line.1
 have hw:=hf.waits;have hs:=hf.set;have hq:=hf.queue
 have t0:v.p.Links.Told.x0.length*16≤140737488351232:=hf.told 0
 have t1:v.p.Links.Told.x1.length*16≤140737488351232:=hf.told 1
 have d0:v.p.Links.Done.x0.length*8≤140737488351232:=hf.done 0
 have d1:v.p.Links.Done.x1.length*8≤140737488351232:=hf.done 1
 have s0:v.p.Links.Said.x0.length*16≤140737488351232:=hf.said 0
 have s1:v.p.Links.Said.x1.length*16≤140737488351232:=hf.said 1
 rw[zbb,zlp]
 simp only[hdo,yy2]
 rw[Tr.rg (by rfl),Tr.rf (by simp),Tr.rb hp]
 simp only[hp,yy2]
 rw[zagi hf,Tr.rg (by rfl),Tr.rg (by rfl),Tr.rf (by rfl)]
 obtain ⟨q1,e1,k1⟩:=zaxu v v (LenP.refl v.p) (by omega)
 rw[Tr.rb e1];simp only[]
 obtain ⟨q2,e2,k2⟩:=zaxv v v k1 (by omega)
 rw[Tr.rb e2];simp only[]
 obtain ⟨q3,e3,k3⟩:=zaxw v v k2 (by omega)
 rw[Tr.rb e3];simp only[]
 obtain ⟨q4,e4,k4⟩:=zaxx v v k3 (by omega)
 rw[Tr.rb e4];simp only[]
 obtain ⟨q5,e5,k5⟩:=zaxy v v k4 (by omega) g0
 rw[Tr.rb e5];simp only[]
 obtain ⟨q6,e6,k6⟩:=zaxz v v k5 (by omega)
 rw[Tr.rb e6];simp only[]
 obtain ⟨q7,e7,k7⟩:=zax0 v v k6 (by omega)
 rw[Tr.rb e7];simp only[]
 obtain ⟨q8,e8,k8⟩:=zax1 v v k7 (by omega) g1
 rw[Tr.rb e8];simp only[]
 rw[Tr.rb (zax2 v v k8 (by omega))];simp only[]
 have loop:zgp 0 v v=some (.inr (v,v)):=by
  rw[zgp,zdw (s':=(((1:Nat):Int),v,v)) (zaej ho (i:=0) (by omega)),zdw (s':=(((2:Nat):Int),v,v)) (zaej ho (i:=1) (by omega)),zga (r:=.inr (v,v)) (by
   show (zbo 2 v v).run=_
   simp only[zbo]
   rw[Tr.rf (by simp),Tr.rl])]
 rw[Tr.rj loop,Tr.rl]
theorem zaal {l:List Deed} (hl:zaxr l):zi4 l=some true:=by
 have loop:∃ w:Wld,zko l 0 newW newW=some (.inr (w,w)):=by
  rw[zko]
  have this:=zdy (F:=fun s:(List Deed)×Int×Wld×Wld=>(zff s.1 s.2.1 s.2.2.1 s.2.2.2).run) (zaai l) (fun i (w:Wld)=>(l,(i:Int),w,w)) (fun i w=>OkW w) (fun w=>.inr (w,w)) ?_ ?_ (t:=newW) zacg
  ·obtain ⟨w,h1,_⟩:=this;exact ⟨w,h1⟩
  ·intro w h
   simp only[zff]
   rw[Tr.rf zaj0,Tr.rl]
  ·intro i w hi h
   have hlt:=zane hi
   have hn:=hl.2 _ (zgv (l:=l) (k:=i) hlt default)
   have ho:=z5z h (l.getD i default)
   have hk:=zanf h hn
   refine ⟨(doW w (l.getD i default)).1,?_,ho⟩
   simp only[zff]
   rw[yy4,Tr.rt (zaj1 hi),Tr.rg ⟨by omega,by rw[z0v];omega⟩,Tr.rb (zagh h hn),Tr.rg ⟨by omega,by rw[z0v];omega⟩,hk,Tr.rg (by rfl),Tr.rf (by rfl),Tr.rl,zq (by have:=hl.1;omega)]
   rfl
 obtain ⟨w,h1⟩:=loop
 rw[zi4,zo7,Tr.rb zacn,Tr.rb (v:=(true,w,w)) (by
  rw[zup,zq4,Tr.rb zand,Tr.rf (by rfl),Tr.rb zacn,Tr.rj (v:=(w,w)) (by exact h1),Tr.rl]),Tr.rl]
