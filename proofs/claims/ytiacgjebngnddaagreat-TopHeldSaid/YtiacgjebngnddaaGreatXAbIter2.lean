/-
  The walk over abstract states.
-/
import Derived.Test.YtiacgjebngnddaaGreatXAbIter
namespace Go.Proofs.YtiacgjebngnddaaGreat.Ab
open Go Go.RowKit
open Go.ChangeMaps (setBlock)
set_option linter.unusedVariables false
set_option linter.unusedSimpArgs false
theorem zzv {α:Type}:∀ {l:List (Int×α)},(l.map (·.1)).Nodup→∀ {p q:Int×α},p∈l→q∈l→p.1=q.1→p=q
 | [],_,p,q,hp,_,_=>by cases hp
 | a::l,hn,p,q,hp,hq,h=>by
  simp only[List.map_cons,List.nodup_cons] at hn
  rcases List.mem_cons.1 hp with rfl | hp
  ·rcases List.mem_cons.1 hq with rfl | hq
   ·rfl
   ·exact absurd (h ▸ List.mem_map_of_mem hq) hn.1
  ·rcases List.mem_cons.1 hq with hqa | hq
   ·exact absurd (hqa ▸ h ▸ List.mem_map_of_mem hp) hn.1
   ·exact zzv hn.2 hp hq h
theorem z0j:∀ {l:List MapEntry},(l.map (·.born)).Nodup→∀ {p q:MapEntry},p∈l→q∈l→p.born=q.born→p=q
 | [],_,p,q,hp,_,_=>by cases hp
 | a::l,hn,p,q,hp,hq,h=>by
  simp only[List.map_cons,List.nodup_cons] at hn
  rcases List.mem_cons.1 hp with rfl | hp
  ·rcases List.mem_cons.1 hq with rfl | hq
   ·rfl
   ·exact absurd (h ▸ List.mem_map_of_mem hq) hn.1
  ·rcases List.mem_cons.1 hq with hqa | hq
   ·exact absurd (hqa ▸ h ▸ List.mem_map_of_mem hp) hn.1
   ·exact z0j hn.2 hp hq h
theorem zadp {P:Program} {w:World} {T0 K0 E0 bm clk:Nat} {es:Array MapEntry} {l:List (Int×Wait)} {kk:Int} {xx:Wait} (hT0:P.underlying T0=some (.map K0 E0)) (hK0:P.underlying K0=some (.int .i64)) (hb:w.heap[bm]?=some (.map es clk))
  (hmap:es.toList.map (fun e=>(e.key,e.val))=l.map (fun p=>(Value.int .i64 p.1,encW p.2))) (hs:MapKept.Stamped es clk) (hp:(kk,xx)∈l) (ty:TypeId) :
  ∃ es',(Builtin.delete_ #[T0,K0] ty #[.map (some bm),.int .i64 kk]).run P w=.ok (.tuple #[]) (setBlock w bm (.map es' clk))∧MapKept.Stamped es' clk∧es'.toList.Sublist es.toList ∧
   es'.toList.map (fun e=>(e.key,e.val))=(l.filter fun p=>decide (p.1≠kk)).map (fun p=>(Value.int .i64 p.1,encW p.2)):=by
 classical
 have hd:MapKept.IsKey (.int .i64) (.int .i64 kk):=by simp[MapKept.IsKey]
 have hkeys:es.toList.map (·.key)=(l.map (·.1)).map (Value.int .i64):=by
  have:=congrArg (List.map Prod.fst) hmap
  rw[List.map_map,List.map_map] at this
  rw[List.map_map]
  exact this
 rcases zwo .i64 kk es.toList (l.map (·.1)) 0 hkeys with ⟨k1,k2⟩ | ⟨j,e,k1,k2,k3,k4⟩
 ·exact absurd (List.mem_map_of_mem (f:=(·.1)) hp) (z0p k1)
 ·refine ⟨es.eraseIdxIfInBounds j,?_,MapKept.stamped_erase hs j,?_,?_⟩
  ·simp[Builtin.delete_,run_underlying hT0,MapKept.run_getObj_map hb,MapKept.run_checkKey hK0 hd,MapKept.run_findKey hK0 k4,MapKept.run_setObj_map _ hb,Result.andThen,setBlock]
  ·unfold Array.eraseIdxIfInBounds
   split
   ·simp only[Array.toList_eraseIdx];exact List.eraseIdx_sublist _ _
   ·exact List.Sublist.refl _
  ·have hj:j < es.size:=by
    have:=(List.getElem?_eq_some_iff.1 k2).1
    simpa using this
   have hel:(es.eraseIdxIfInBounds j).toList=es.toList.eraseIdx j:=by
    unfold Array.eraseIdxIfInBounds
    rw[dif_pos hj,Array.toList_eraseIdx]
   rw[hel,zyn (·.key) es.toList j e hs.2.2 k2]
   have key:∀ (L1:List MapEntry) (L2:List (Int×Wait)),L1.map (fun e=>(e.key,e.val))=L2.map (fun p=>(Value.int .i64 p.1,encW p.2)) →
     (L1.filter fun y=>decide (y.key≠e.key)).map (fun e=>(e.key,e.val))=(L2.filter fun p=>decide (p.1≠kk)).map (fun p=>(Value.int .i64 p.1,encW p.2)):=by
    intro L1
    induction L1 with
    | nil=>intro L2 h;cases L2 with
     | nil=>rfl
     | cons _ _=>simp at h
    | cons y L1 ih =>
     intro L2 h
     cases L2 with
     | nil=>simp at h
     | cons p L2 =>
      simp only[List.map_cons,List.cons.injEq,Prod.mk.injEq] at h
      obtain ⟨⟨h1,h2⟩,h3⟩:=h
      have hkk:(y.key≠e.key)↔(p.1≠kk):=by rw[h1,k3];simp
      by_cases hc:p.1≠kk
      ·rw[List.filter_cons_of_pos (by simpa using hkk.2 hc),List.filter_cons_of_pos (by simpa using hc),List.map_cons,List.map_cons,ih L2 h3,h1,h2]
      ·rw[List.filter_cons_of_neg (by simpa using fun q=>hc (hkk.1 q)),List.filter_cons_of_neg (by simpa using hc),ih L2 h3]
   have:=key es.toList l hmap
   rw[← this]
theorem zajb {es:Array MapEntry} {seen:Array Nat} (h:(leftOf es seen).size=0):∀ e,e∈es.toList→seen.contains e.born=true:=by
 intro e he
 cases hc:seen.contains e.born with
 | true=>rfl
 | false =>
  have hm:e∈(leftOf es seen):=by
   unfold leftOf
   rw[Array.mem_filter]
   exact ⟨Array.mem_toList_iff.1 he,by rw[hc];rfl⟩
  have:=Array.size_pos_of_mem hm
  omega
theorem zajc {es:Array MapEntry} {seen:Array Nat} {e:MapEntry} (h:e∈(leftOf es seen).toList):e∈es.toList∧seen.contains e.born=false:=by
 have h:=Array.mem_toList_iff.1 h
 unfold leftOf at h
 rw[Array.mem_filter] at h
 refine ⟨Array.mem_toList_iff.2 h.1,?_⟩
 have:=h.2
 cases hc:seen.contains e.born with
 | false=>rfl
 | true=>rw[hc] at this;cases this
theorem zaq4 {es:Array MapEntry} {l:List (Int×Wait)} (h:es.toList.map (fun e=>(e.key,e.val))=l.map (fun p=>(Value.int .i64 p.1,encW p.2))) {e:MapEntry} (he:e∈es.toList):∃ p,p∈l∧e.key=.int .i64 p.1∧e.val=encW p.2:=by
 have:=List.mem_map_of_mem (f:=fun e:MapEntry=>(e.key,e.val)) he
 rw[h] at this
 obtain ⟨p,h1,h2⟩:=List.mem_map.1 this
 simp only[Prod.mk.injEq] at h2
 exact ⟨p,h1,h2.1.symm,h2.2.symm⟩
theorem zaq5 {es:Array MapEntry} {l:List (Int×Wait)} (h:es.toList.map (fun e=>(e.key,e.val))=l.map (fun p=>(Value.int .i64 p.1,encW p.2))) {p:Int×Wait} (hp:p∈l):∃ e,e∈es.toList∧e.key=.int .i64 p.1:=by
 have:=List.mem_map_of_mem (f:=fun p:Int×Wait=>(Value.int .i64 p.1,encW p.2)) hp
 rw[← h] at this
 obtain ⟨e,h1,h2⟩:=List.mem_map.1 this
 simp only[Prod.mk.injEq] at h2
 exact ⟨e,h1,h2.1⟩
def fxOf (L:Nat) (nu:Nat→Option Value) (k:Nat):Option Value:=if k < L then nu k else none
theorem fxOf_some {L:Nat} {nu:Nat→Option Value} {k:Nat} {u:Value}:fxOf L nu k=some u↔k < L∧nu k=some u:=by
 unfold fxOf
 split
 ·rename_i h;simp[h]
 ·rename_i h;simp[h]
theorem zwi {w:World} {b:Nat} {o o':Obj} (h:w.heap[b]?=some o):(setBlock w b o').heap[b]?=some o'∧(∀ k,k≠b→(setBlock w b o').heap[k]?=w.heap[k]?)∧(setBlock w b o').heap.size=w.heap.size:=by
 obtain ⟨h1,h2⟩:=MapKept.heap_set (o':=o') h
 exact ⟨h1,h2,by simp[setBlock]⟩
set_option maxHeartbeats 1000000 in
theorem zadq {Y:EnvT} {A:Ann} {σ β:Type} (hY:Y.Ok) (hm:Y.P.follows .mixedOrders=true) {root:Code} {L:Nat} {π:List Nat} {c7:Code} {i0 i1 i2 i3 b0 b7:Nat} {p0 p1 q0 q1 oe r0 r1 r2:Oper} {l2:List Oper}
  {dc d100 dIt d102 d103 de dk d138 d139 T0 K0 E0 jm jc Tc n N:Nat} {a:EndD σ} {b:EndD β} {T:Value→σ→Int→Wait→Tr ((Int×Value×σ)⊕(Value×σ))} {g:σ→List (Int×Wait)→β}
  (hc:sub root π=.seq (.region i0 #[p0,p1] false) (.block b0 (.loop (.seq (.region i1 #[q0,q1] false) (.seq (.cond (.tmp d103) .skip (.exit b0)) (.block b7 (.seq (.region i2 ⟨oe::l2⟩ false) c7)))))))
  (hlast:z9q c7=.region i3 #[r0,r1,r2] false)
  (hops:[p0,p1,q0,q1,oe,r0,r1,r2].map (·.op)=[.load T0 (.tmp dc),.range T0 (.tmp d100),.next (.tmp dIt) false,.extract (.tmp d102) 0,.entry (.tmp dIt),.load T0 (.tmp dc),.move (.tmp dk),.call { callee:=.builtin .delete,args:=#[.tmp d138,.tmp d139],argTypes:=#[T0,K0] }])
  (hdst:[p0,p1,q0,q1,oe,r0,r1,r2].map (·.dst)=[some d100,some dIt,some d102,some d103,some de,some d138,some d139,none])
  (hgd:[p0,p1,q0,q1,oe,r0,r1,r2].map (·.guard)=[none,none,none,none,none,none,none,none])
  (hT0:Y.P.underlying T0=some (.map K0 E0)) (hK0:Y.P.underlying K0=some (.int .i64)) (ht:zh Y.P (isAgg T0)=some false) (hz:zh Y.P (sizeOf T0)=some 1)
  (hdn:d100 < n∧dIt < n∧d102 < n∧d103 < n∧de < n∧d138 < n∧d139 < n∧dk < n) (hne:dIt≠d102∧dIt≠d103∧dIt≠de∧dIt≠d138∧dIt≠d139∧dk≠d138∧dk≠dIt∧d138≠d139)
  (hjm:jm < L) (ha:∀ v,((a.at n N v).slot dc=.ptr jc 0∧(a.at n N v).blks.getD jc .dead=.cells Tc [.own jm])∧((a.at n N v).blks.getD jm .dead=.dead∧jm < (a.at n N v).blks.length))
  (hany:∀ v,[d100,dIt,d102,d103,de,dk,d138,d139].map (lk (a.at n N v).sl)=[.any,.any,.any,.any,.any,.any,.any,.any])
  (hb:∀ v l,decP b.q n L b.p b.s ⟨n,(a.at n N v).sl,(a.at n N v).blks.set jm (.maps (.waits l))⟩=some (g v l))
  (hA:zue Y.env L (zqo c7) A.cut) (hsp:(A.cut.all fun p=>p.1.any fun q => !Nat.beq q 1)=true)
  (hT:∀ it v k x,opsT Y ⟨oe::l2⟩ (gsOf ⟨oe::l2⟩) (List.range' 1 l2.length) (St.enter (gsOf ⟨oe::l2⟩) ⟨n,(de,.tup [.i k,.agg x.cells])::((EndD.also LQ.anyv dIt a).at n N (it,v)).sl,((EndD.also LQ.anyv dIt a).at n N (it,v)).blks⟩)
   (fun r=>z3n Y A (zqo c7) [] (r.tidy n (nthL A.live i2)) (z9l n L (J2 .normal (EndD.also intP.q dk (EndD.also LQ.anyv dIt a)) (.exit b7) (EndD.also LQ.anyv dIt a))))=T it v k x) :
  zo Y.env L (sub root π) (mapL n N L jm a b T g):=by
 classical
 simp only[List.map_cons,List.map_nil,List.cons.injEq,and_true] at hops hdst hgd
 obtain ⟨hp0,hp1,hq0,hq1,hoe,hr0,hr1,hr2⟩:=hops
 obtain ⟨dp0,dp1,dq0,dq1,doe,dr0,dr1,dr2⟩:=hdst
 obtain ⟨gp0,gp1,gq0,gq1,goe,gr0,gr1,gr2⟩:=hgd
 obtain ⟨hn100,hnIt,hn102,hn103,hnde,hn138,hn139,hdk⟩:=hdn
 obtain ⟨ne1,ne2,ne3,ne4,ne5,ne6,ne7,ne8⟩:=hne
 have slot_of:∀ v d,lk (a.at n N v).sl d=.any→(a.at n N v).slot d=.any:=by
  intro v d h
  unfold St.slot;split
  ·exact h
  ·rfl
 rw[hc]
 intro st R hst G hG Q hQ
 unfold mapL at hst
 split at hst
 case h_2=>cases hst
 rename_i l hblk
 split at hst
 case h_2=>cases hst
 rename_i v hdec
 simp only[yy1] at hst
 subst hst
 obtain ⟨rr,hr,hq⟩:=hQ
 obtain ⟨l',hl',rfl⟩:=Option.map_eq_some_iff.1 hr
 unfold mapF at hl'
 split at hl'
 case isFalse=>cases hl'
 rename_i H
 simp only[yy1] at hl'
 have hq:Q .normal (b.at n N (g v l')):=hq
 obtain ⟨⟨ha1,ha2⟩,ha3,ha4⟩:=ha v
 have hany:=hany v
 simp only[List.map_cons,List.map_nil,List.cons.injEq,and_true] at hany
 obtain ⟨y100,yIt,y102,y103,yde,ydk,y138,y139⟩:=hany
 have z100:=slot_of v _ y100
 have zIt:=slot_of v _ yIt
 have z102:=slot_of v _ y102
 have z103:=slot_of v _ y103
 have zde:=slot_of v _ yde
 have z138:=slot_of v _ y138
 have z139:=slot_of v _ y139
 generalize hdl:(fun p:Int×Wait=>decide (∀ it,(T it v p.1 p.2).run=some (.inl (p.1,it,v))))=dl at *
 have hl':l'=l.filter fun p => !dl p:=by rw[← hl',← hdl]
 have hdl1:∀ p,dl p=true↔∀ it,(T it v p.1 p.2).run=some (.inl (p.1,it,v)):=by intro p;rw[← hdl];simp
 intro act w hi
 obtain ⟨nu,hn⟩:=hi
 have hk:=hn.mem.ok jm
 rw[hblk] at hk
 obtain ⟨bm,es,clk,e1,e2,e3⟩:=hk
 have e2:w.heap[bm]?=some (.map es clk):=e2
 obtain ⟨hmap0,hst0⟩:=mapRd_waits.1 e3
 have hlow:=hn.mem.low jm _ bm (by rw[hblk];rfl) e1 rfl
 have hbl:jm < st.blks.length:=by
  rcases Nat.lt_or_ge jm st.blks.length with h1 | h1
  ·exact h1
  ·rw[yy0,List.getElem?_eq_none h1] at hblk;cases hblk
 have hn1:NInv G ⟨st.n,st.sl,st.blks.set jm .dead⟩ nu act w:=by
  obtain ⟨m1,m2⟩:=hn.mem.weaken (blks':=st.blks.set jm .dead) (fun k=>by
   by_cases e:k=jm
   ·subst e;rw[zr hbl];exact .dead
   ·rw[getD_set_ne (fun q=>e q.symm)];exact .same)
  exact ⟨m1,hn.size,hn.defers,fun d hd=>m2 _ _ (hn.slots d hd)⟩
 have hnl:¬ zkv (st.blks.set jm .dead) nu bm:=by
  rintro ⟨i,u,k1,k2,k3⟩
  by_cases e:i=jm
  ·subst e;rw[zr hbl] at k1;cases k1
  ·rw[getD_set_ne (fun q=>e q.symm)] at k1
   exact hn.mem.apart jm i _ u bm (fun q=>e q.symm) (by rw[hblk];rfl) k1 e1 k2 rfl k3
 obtain ⟨G1,a1,f1,gw1,A1,m1,le1⟩:=hn1.mem.now (Anc.refl G) (w':=w) (Nat.le_refl _) rfl rfl rfl (fun b _=>.inl rfl) (fxOf L nu)
  (fun k u hk=>(fxOf_some.1 hk).2) (fun k u hk=>fxOf_some.2 ⟨hG k u hk,hn.mem.fix k u hk⟩)
 have hG1:z2o G1 L:=fun k u hk=>(fxOf_some.1 (by rw[f1] at hk;exact hk)).1
 obtain ⟨nu2,hn3⟩:=z4z hdec hG1 ⟨nu,⟨m1,hn1.size,hn1.defers,fun d hd=>(hn1.slots d hd).mono le1⟩⟩ N
 have hfx:G1.fix jm=some (.map (some bm)):=by rw[f1];exact fxOf_some.2 ⟨hjm,e1⟩
 have ho1:bm < G1.w0.heap.size∧¬ G1.A bm:=by rw[gw1,A1];exact ⟨hlow.1,hnl⟩
 have hnu:=hn3.mem.fix jm _ hfx
 have hn3:NInv G1 (a.at n N v) nu2 act w:=hn3
 refine wp_seq (wp_region ?_)
 show wpOps Y.P #[p0,p1] _ [0,1] act w
 rw[wpOps_cons]
 refine zdw (o:=p0) (Q:=fun u w1=>.map (some bm)=u∧w=w1) rfl gp0 (Does.value (zabx hn3 ha1 ha2 hnu ht hz p0 hp0) ⟨rfl,rfl⟩) fun u w1 hu=>?_
 obtain ⟨rfl,rfl⟩:=hu
 rw[dp0,wpOps_cons]
 have hn4:=hn3.putAny z100 (.map (some bm))
 refine zdw (o:=p1) (Q:=fun u w2=>.pointer (some ⟨w.heap.size,0,none⟩)=u∧w.alloc (.mapIter (some bm) clk #[] clk)=w2) rfl gp1 (Does.value (v:=.pointer (some ⟨w.heap.size,0,none⟩)) (w':=w.alloc (.mapIter (some bm) clk #[] clk)) (by
  have:(act.put (some d100) (.map (some bm))).eval (.tmp d100)=.map (some bm):=by
   show (act.put (some d100) (.map (some bm))).tmps.getD d100 undef=_
   rw[ze5 (by have h:act.tmps.size=n:=hn3.size;omega),if_pos rfl]
  simp[execOp,hp1,this,run_range_map w T0 K0 E0 bm es clk hT0 e2]) ⟨rfl,rfl⟩) fun u w2 hu=>?_
 obtain ⟨rfl,rfl⟩:=hu
 rw[dp1]
 have hn5:=hn4.putAny zIt (.pointer (some ⟨w.heap.size,0,none⟩))
 obtain ⟨G2,a2,f2,gw2,A2,m2,le2⟩:=hn5.mem.now a1 (w':=w.alloc (.mapIter (some bm) clk #[] clk)) (by rw[zjt];omega) rfl rfl rfl (fun b hb=>.inl (Below.heap_alloc w _ b hb)) G1.fix (fun k u hk=>hn5.mem.fix k u hk) (fun _ _ h=>h)
 have hG1w:G1.w0.heap.size=w.heap.size:=by rw[gw1]
 generalize hr00:w.heap.size=r00 at *
 have hin5:NInv G2 (a.at n N v) nu2 ((act.put (some d100) (.map (some bm))).put (some dIt) (.pointer (some ⟨r00,0,none⟩))) (w.alloc (.mapIter (some bm) clk #[] clk)):=⟨m2,hn5.size,hn5.defers,fun d hd=>(hn5.slots d hd).mono le2⟩
 have hnd:(l.map (·.1)).Nodup:=by
  have h1:=hst0.2.2
  have h2:es.toList.map (·.key)=(l.map (·.1)).map (Value.int .i64):=by
   have:=congrArg (List.map Prod.fst) hmap0
   rw[List.map_map,List.map_map] at this
   rw[List.map_map]
   exact this
  rw[h2] at h1
  exact List.Pairwise.imp (fun h e=>h (congrArg _ e)) (List.pairwise_map.1 h1)
 have hro:G.w0.heap.size≤r00:=by
  have:=hn.mem.size
  rw[hr00] at this;exact this
 refine wp_block (wp_loop_ghost (MapJ G L jm bm r00 clk dIt (a.at n N v) l dl) (es.toList.countP fun e => !(#[]:Array Nat).contains e.born) ?_ ?_)
 ·refine ⟨G2,es,clk,#[],clk,[],a2,fun k u hk=>hG1 k u (by rw[← f2];exact hk),by rw[f2];exact hfx,?_,?_,⟨nu2,hin5⟩,?_,?_,?_,hst0,hst0.1,Nat.le_refl _,Nat.le_refl _,?_,?_,rfl⟩
  ·rw[gw2,A2,zjt]
   refine ⟨by omega,zob hn5.mem ho1.1 ho1.2⟩
  ·rw[gw2,A2,zjt,hr00]
   refine ⟨by omega,fun ⟨j,u,k1,k2,k3⟩=>?_⟩
   have:=(hn5.mem.low j u r00 k1 k2 k3).1
   omega
  ·rw[ze5 (by have h:act.tmps.size=n:=hn3.size;simp[Act.put];omega),if_pos rfl]
  ·rw[Below.heap_alloc w _ bm (by omega)];exact e2
  ·rw[← hr00];exact heap_alloc_new w _
  ·rw[hmap0]
   congr 1
   refine (List.filter_eq_self.2 fun p _=>?_).symm
   simp
  ·intro e _ h;simp at h
 ·intro k act w hJ
  obtain ⟨G',es,clk',seen,c0,Z,ha',hG',hfx',hbm',hr0',⟨nu,hn⟩,hit,hb1,hb2,hst,hold,hsc,hsk,hmap,hseen,hk⟩:=hJ
  have hsz:act.tmps.size=n:=hn.size
  have hev:act.eval (.tmp dIt)=.pointer (some ⟨r00,0,none⟩):=hit
  refine wp_seq (wp_region ?_)
  show wpOps Y.P #[q0,q1] _ [0,1] act w
  rw[wpOps_cons]
  rcases run_next_at (P:=Y.P) w q0.type r00 bm clk c0 seen es clk' hb2 hb1 hold hsc with ⟨h0,hrun⟩ | ⟨e,he,w1,hw1,hrun⟩
  ·refine zdw (o:=q0) (Q:=fun u w1=>.tuple #[.bool false]=u∧w=w1) rfl gq0 (Does.value (v:=.tuple #[.bool false]) (w':=w) (by simp[execOp,hq0,hev,hrun]) ⟨rfl,rfl⟩) fun u w1 hu=>?_
   obtain ⟨rfl,rfl⟩:=hu
   rw[dq0,wpOps_cons]
   refine zdw (o:=q1) (Q:=fun u w1=>.bool false=u∧w=w1) rfl gq1 (Does.value (v:=.bool false) (w':=w) (by
    have:(act.put (some d102) (.tuple #[.bool false])).eval (.tmp d102)=.tuple #[.bool false]:=by
     show (act.put (some d102) (.tuple #[.bool false])).tmps.getD d102 undef=_
     rw[ze5 (by omega),if_pos rfl]
    simp[execOp,hq1,this,Instr.extract]) ⟨rfl,rfl⟩) fun u w1 hu=>?_
   obtain ⟨rfl,rfl⟩:=hu
   rw[dq1]
   have hcnd:((act.put (some d102) (.tuple #[.bool false])).put (some d103) (.bool false)).eval (.tmp d103)=.bool false:=by
    show ((act.put (some d102) (.tuple #[.bool false])).put (some d103) (.bool false)).tmps.getD d103 undef=_
    rw[ze5 (by simp[Act.put];omega),if_pos rfl]
   refine wp_seq (wp_cond_split hcnd (fun h=>by cases h) fun _=>wp_exit ?_)
   simp only[Exit.then,Exit.inBlock,if_true]
   have hn6:NInv G' ⟨n,(a.at n N v).sl,(a.at n N v).blks⟩ nu _ w:=(hn.putAny z102 (.tuple #[.bool false])).putAny z103 (.bool false)
   have hmap':es.toList.map (fun e=>(e.key,e.val))=l'.map (fun p=>(Value.int .i64 p.1,encW p.2)):=by
    rw[hmap,hl']
    congr 1
    refine List.filter_congr fun p hp=>?_
    cases hd:dl p with
    | false=>rfl
    | true =>
     cases hz:Z.contains p.1 with
     | true=>rfl
     | false =>
      have hpf:p∈l.filter fun p => !(dl p&&Z.contains p.1):=List.mem_filter.2 ⟨hp,by rw[hd,hz];rfl⟩
      obtain ⟨e,h1,h2⟩:=zaq5 hmap hpf
      obtain ⟨q,h3,h4⟩:=hseen e h1 (zajb h0 e h1)
      rw[h2] at h3
      simp only[Value.int.injEq,true_and] at h3
      rw[← h3] at h4
      rw[List.contains_eq_mem,yy8] at hz
      exact absurd h4 hz
   have hn7:=(hn6.back ha').putMap ha4 ha3 (hn6.mem.fix jm _ hfx') hb1 (mapRd_waits.2 ⟨hmap',hst⟩) (zob hn6.mem hbm'.1 hbm'.2) hlow.2
   exact ⟨_,hq,z4z (hb v l') hG ⟨nu,hn7⟩ N⟩
  ·obtain ⟨hemem,heun⟩:=zajc he
   obtain ⟨⟨kk,xx⟩,hpf,hkey,hval⟩:=zaq4 hmap hemem
   obtain ⟨hpl,hpz⟩:=List.mem_filter.1 hpf
   have hnr:r00≠bm:=fun q=>by rw[q,hb1] at hb2;cases hb2
   have hw1h:w1.heap=w.heap:=by rcases hw1 with rfl | rfl<;>rfl
   have hw1o:w1.os=w.os∧w1.tape=w.tape∧w1.output=w.output:=by rcases hw1 with rfl | rfl<;>exact ⟨rfl,rfl,rfl⟩
   obtain ⟨s1,s2,s3⟩:=zwi (w:=w1) (o':=.mapIter (some bm) clk (seen.push e.born) clk') (by rw[hw1h];exact hb2)
   have so:(setBlock w1 r00 (.mapIter (some bm) clk (seen.push e.born) clk')).os=w.os∧(setBlock w1 r00 (.mapIter (some bm) clk (seen.push e.born) clk')).tape=w.tape∧(setBlock w1 r00 (.mapIter (some bm) clk (seen.push e.born) clk')).output=w.output:=hw1o
   generalize hwn:setBlock w1 r00 (.mapIter (some bm) clk (seen.push e.born) clk')=wn at *
   rw[hw1h] at s2 s3
   refine zdw (o:=q0) (Q:=fun u w2=>.tuple #[.bool true,e.key,e.val]=u∧wn=w2) rfl gq0 (Does.value (v:=.tuple #[.bool true,e.key,e.val]) (w':=wn) (by simp[execOp,hq0,hev,hrun]) ⟨rfl,rfl⟩) fun u w2 hu=>?_
   obtain ⟨rfl,rfl⟩:=hu
   rw[dq0,wpOps_cons]
   refine zdw (o:=q1) (Q:=fun u w2=>.bool true=u∧wn=w2) rfl gq1 (Does.value (v:=.bool true) (w':=wn) (by
    have:(act.put (some d102) (.tuple #[.bool true,e.key,e.val])).eval (.tmp d102)=.tuple #[.bool true,e.key,e.val]:=by
     show (act.put (some d102) (.tuple #[.bool true,e.key,e.val])).tmps.getD d102 undef=_
     rw[ze5 (by omega),if_pos rfl]
    simp[execOp,hq1,this,Instr.extract]) ⟨rfl,rfl⟩) fun u w2 hu=>?_
   obtain ⟨rfl,rfl⟩:=hu
   rw[dq1]
   have hn6:=(hn.putAny z102 (.tuple #[.bool true,e.key,e.val])).putAny z103 (.bool true)
   have hit6:((act.put (some d102) (.tuple #[.bool true,e.key,e.val])).put (some d103) (.bool true)).tmps.getD dIt undef=.pointer (some ⟨r00,0,none⟩):=by
    rw[ze5 (by simp[Act.put];omega),if_neg ne2,ze5 (by omega),if_neg ne1];exact hit
   have hcnd:((act.put (some d102) (.tuple #[.bool true,e.key,e.val])).put (some d103) (.bool true)).eval (.tmp d103)=.bool true:=by
    show ((act.put (some d102) (.tuple #[.bool true,e.key,e.val])).put (some d103) (.bool true)).tmps.getD d103 undef=_
    rw[ze5 (by simp[Act.put];omega),if_pos rfl]
   have hsz6:((act.put (some d102) (.tuple #[.bool true,e.key,e.val])).put (some d103) (.bool true)).tmps.size=n:=hn6.size
   generalize ((act.put (some d102) (.tuple #[.bool true,e.key,e.val])).put (some d103) (.bool true))=act6 at *
   refine wp_seq (wp_cond_split hcnd (fun _=>wp_skip ?_) fun h=>by cases h)
   show (Code.block b7 (.seq (.region i2 ⟨oe::l2⟩ false) c7)).wp Y.P _ act6 wn
   refine wp_block (wp_seq (wp_region ?_))
   show wpOps Y.P ⟨oe::l2⟩ _ (List.range (l2.length+1)) act6 wn
   have hrg:List.range (l2.length+1)=0::List.range' 1 l2.length:=by rw[List.range_eq_range',List.range'_succ]
   rw[hrg,wpOps_cons]
   have hbn:wn.heap[bm]?=some (.map es clk'):=by rw[s2 bm (Ne.symm hnr)];exact hb1
   have hev6:act6.eval (.tmp dIt)=.pointer (some ⟨r00,0,none⟩):=hit6
   have hrun6:=run_entry_at (P:=Y.P) wn r00 bm clk seen es clk' e s1 hbn hemem hst.2.1
   refine zdw (o:=oe) (Q:=fun u w2=>.tuple #[e.key,e.val]=u∧wn=w2) rfl goe (Does.value (v:=.tuple #[e.key,e.val]) (w':=wn) (by simp[execOp,hoe,hev6,hrun6]) ⟨rfl,rfl⟩) fun u w2 hu=>?_
   obtain ⟨rfl,rfl⟩:=hu
   rw[doe]
   have hn7:=hn6.putAny zde (.tuple #[e.key,e.val])
   have hit7:(act6.put (some de) (.tuple #[e.key,e.val])).tmps.getD dIt undef=.pointer (some ⟨r00,0,none⟩):=by rw[ze5 (by omega),if_neg ne3];exact hit6
   have hde7:(act6.put (some de) (.tuple #[e.key,e.val])).tmps.getD de undef=.tuple #[e.key,e.val]:=by rw[ze5 (by omega),if_pos rfl]
   generalize act6.put (some de) (.tuple #[e.key,e.val])=act7 at *
   obtain ⟨G3,a3,f3,gw3,A3,m3,le3⟩:=hn7.mem.now ha' (w':=wn) (by omega) so.1 so.2.1 so.2.2 (fun b hbb=>by
    by_cases q:b=r00
    ·subst q
     exact .inr ⟨zob hn7.mem hr0'.1 hr0'.2,zaft hb2 (by intro x y z h;cases h),.inl hro⟩
    ·exact .inl (s2 b q)) G'.fix (fun k u hk=>hn7.mem.fix k u hk) (fun _ _ h=>h)
   have hG3:z2o G3 L:=fun k u hk=>hG' k u (by rw[← f3];exact hk)
   have hn8:NInv G3 ⟨n,(a.at n N v).sl,(a.at n N v).blks⟩ nu act7 wn:=⟨m3,hn7.size,hn7.defers,fun d hd=>(hn7.slots d hd).mono le3⟩
   have hn9:NInv G3 ⟨n,(de,.tup [.i kk,.agg xx.cells])::((EndD.also LQ.anyv dIt a).at n N (.pointer (some ⟨r00,0,none⟩),v)).sl,((EndD.also LQ.anyv dIt a).at n N (.pointer (some ⟨r00,0,none⟩),v)).blks⟩ nu act7 wn:=by
    refine NInv.withS (sl:=(dIt,.val (.pointer (some ⟨r00,0,none⟩)))::(a.at n N v).sl) (NInv.withS hn8 (by rw[hit7];exact .val)) ?_
    rw[hde7,hkey,hval]
    have hr:Rds (cx G3 (a.at n N v).blks nu wn) [.i kk,.agg xx.cells] [.int .i64 kk,encW xx]:=.cons .val (.cons (rd_wait.2 rfl) .nil)
    exact .tup hr.1 hr.2
   have hbm3:bm < G3.w0.heap.size∧¬ G3.A bm:=by
    rw[gw3,A3,s3]
    exact ⟨(Array.getElem?_eq_some_iff.1 hb1).1,zob hn7.mem hbm'.1 hbm'.2⟩
   have hr03:r00 < G3.w0.heap.size∧¬ G3.A r00:=by
    rw[gw3,A3,s3]
    exact ⟨(Array.getElem?_eq_some_iff.1 hb2).1,zob hn7.mem hr0'.1 hr0'.2⟩
   have hfx3:G3.fix jm=some (.map (some bm)):=by rw[f3];exact hfx'
   have hcount:(es.toList.countP fun x => !(seen.push e.born).contains x.born) < k:=by
    rw[← hk]
    refine z64 (e:=e) (fun x hx=>?_) (by rw[heun];rfl) (by simp) hemem
    simp only[Bool.not_eq_true',Array.contains_push,Bool.or_eq_false_iff] at hx ⊢
    first | exact hx.1 | exact hx.2
   have hrest:∀ y,(T (.pointer (some ⟨r00,0,none⟩)) v kk xx).run=some y→∀ K:Exit→Act→World→Prop,
     (∀ s a' w',Inv G3 s a' w'→∀ e',e'=(P2 n N .normal (EndD.also intP.q dk (EndD.also LQ.anyv dIt a)) (.exit b7) (EndD.also LQ.anyv dIt a) y).1→s=(P2 n N .normal (EndD.also intP.q dk (EndD.also LQ.anyv dIt a)) (.exit b7) (EndD.also LQ.anyv dIt a) y).2 →
      (e'=.normal→(Code.region i3 #[r0,r1,r2] false).wp Y.P K a' w')∧(e'≠.normal→K e' a' w')) →
     wpOps Y.P ⟨oe::l2⟩ (Exit.then (c7.wp Y.P K) K) (List.range' 1 l2.length) act7 wn:=by
    intro y hy K hK
    have h3:=Tr.run_all _ hy
    rw[← hT] at h3
    refine zps hY _ (hn9.enter (gsOf ⟨oe::l2⟩)) h3 fun st' nu' a' w' h' hl hq'=>?_
    have hs:Inv G3 (st'.tidy n (nthL A.live i2)) a' w':=⟨nu',h'.tidy (hl.trans (zsc _ _)) _⟩
    refine zadl hY hm hG3 hA hsp (Q:=fun x=>x=y) (k:=z9l n L (J2 .normal (EndD.also intP.q dk (EndD.also LQ.anyv dIt a)) (.exit b7) (EndD.also LQ.anyv dIt a))) (K:=K) (fun e' s a'' w'' hne' hl' hi'=>?_) (fun s a'' w'' hl' hi'=>?_) c7 0 hlast rfl _ a' w' hs hq'
    ·obtain ⟨k1,k2⟩:=z0d (zaqr n N .normal _ (.exit b7) _) hl' hG3 hi'
     exact (hK _ a'' w'' k2 e' k1 rfl).2 hne'
    ·obtain ⟨k1,k2⟩:=z0d (zaqr n N .normal _ (.exit b7) _) hl' hG3 hi'
     exact (hK _ a'' w'' k2 .normal k1 rfl).1 rfl
   have hfin:∀ a' w' nu',NInv G3 (a.at n N v) nu' a' w'→w'.heap[bm]?=some (.map es clk')∧w'.heap[r00]?=some (.mapIter (some bm) clk (seen.push e.born) clk'):=by
    intro a' w' nu' h'
    refine ⟨?_,?_⟩
    ·rw[h'.mem.block bm hbm3.1 hbm3.2,gw3];exact hbn
    ·rw[h'.mem.block r00 hr03.1 hr03.2,gw3];exact s1
   rcases H (kk,xx) hpl with hA' | hB'
   ·refine hrest _ (hA' _) _ fun s a' w' hi' e' he' hs'=>?_
    have he':e'=.normal:=he'
    refine ⟨fun _=>?_,fun h=>absurd he' h⟩
    rw[hs'] at hi'
    obtain ⟨nu',hn'⟩:=hi'
    have hn':NInv G3 ⟨n,(dk,.i kk)::(dIt,.val (.pointer (some ⟨r00,0,none⟩)))::(a.at n N v).sl,(a.at n N v).blks⟩ nu' a' w':=hn'
    have hdkv:a'.tmps.getD dk undef=.int .i64 kk:=hn'.val (by unfold St.slot;simp[hdk,lk])
    have hit':a'.tmps.getD dIt undef=.pointer (some ⟨r00,0,none⟩):=hn'.val (by unfold St.slot;simp[hnIt,lk,ne7.symm])
    have hn'':NInv G3 (a.at n N v) nu' a' w':=(hn'.lessS (by simp[lk,ne7,ydk])).lessS yIt
    obtain ⟨x1,x2⟩:=hfin a' w' nu' hn''
    have hsz':a'.tmps.size=n:=hn''.size
    have hnu':=hn''.mem.fix jm _ hfx3
    refine wp_region ?_
    show wpOps Y.P #[r0,r1,r2] _ [0,1,2] a' w'
    rw[wpOps_cons]
    refine zdw (o:=r0) (Q:=fun u w2=>.map (some bm)=u∧w'=w2) rfl gr0 (Does.value (zabx hn'' ha1 ha2 hnu' ht hz r0 hr0) ⟨rfl,rfl⟩) fun u w2 hu=>?_
    obtain ⟨rfl,rfl⟩:=hu
    rw[dr0,wpOps_cons]
    have hn1':=hn''.putAny z138 (.map (some bm))
    have t1:∀ d,(a'.put (some d138) (.map (some bm))).tmps.getD d undef=if d=d138 then .map (some bm) else a'.tmps.getD d undef:=fun d=>ze5 (by omega)
    refine zdw (o:=r1) (Q:=fun u w2=>.int .i64 kk=u∧w'=w2) rfl gr1 (Does.value (v:=.int .i64 kk) (w':=w') (by
     have:(a'.put (some d138) (.map (some bm))).eval (.tmp dk)=.int .i64 kk:=by
      show (a'.put (some d138) (.map (some bm))).tmps.getD dk undef=_
      rw[t1,if_neg ne6];exact hdkv
     simp[execOp,hr1,this]) ⟨rfl,rfl⟩) fun u w2 hu=>?_
    obtain ⟨rfl,rfl⟩:=hu
    rw[dr1,wpOps_cons]
    have hn2':=hn1'.putAny z139 (.int .i64 kk)
    have t2:∀ d,((a'.put (some d138) (.map (some bm))).put (some d139) (.int .i64 kk)).tmps.getD d undef=if d=d139 then .int .i64 kk else if d=d138 then .map (some bm) else a'.tmps.getD d undef:=fun d=>by
     rw[ze5 (by simp[Act.put];omega),t1]
    obtain ⟨es',hdel,hst',hsub,hmap'⟩:=zadp (P:=Y.P) hT0 hK0 x1 hmap hst hpf r2.type
    refine zdw (o:=r2) (Q:=fun u w2=>setBlock w' bm (.map es' clk')=w2) rfl gr2 (Does.value (v:=.tuple #[]) (w':=setBlock w' bm (.map es' clk')) (by
     have x0:((a'.put (some d138) (.map (some bm))).put (some d139) (.int .i64 kk)).eval (.tmp d138)=.map (some bm):=by
      show ((a'.put (some d138) (.map (some bm))).put (some d139) (.int .i64 kk)).tmps.getD d138 undef=_
      rw[t2,if_neg ne8,if_pos rfl]
     have x1:((a'.put (some d138) (.map (some bm))).put (some d139) (.int .i64 kk)).eval (.tmp d139)=.int .i64 kk:=by
      show ((a'.put (some d138) (.map (some bm))).put (some d139) (.int .i64 kk)).tmps.getD d139 undef=_
      rw[t2,if_pos rfl]
     simp[execOp,hr2,resolve,x0,x1,invoke,builtin,hdel]) rfl) fun u w2 hu=>?_
    subst hu
    rw[dr2]
    obtain ⟨u1,u2,u3⟩:=zwi (w:=w') (o':=.map es' clk') x1
    obtain ⟨G4,a4,f4,gw4,A4,m4,le4⟩:=hn2'.mem.now a3 (w':=setBlock w' bm (.map es' clk')) (by omega) rfl rfl rfl (fun b hbb=>by
     by_cases q:b=bm
     ·subst q
      exact .inr ⟨zob hn2'.mem hbm3.1 hbm3.2,zaft x1 (by intro x y z h;cases h),hlow.2⟩
     ·exact .inl (u2 b q)) G3.fix (fun k u hk=>hn2'.mem.fix k u hk) (fun _ _ h=>h)
    have hlt:(es'.toList.countP fun x => !(seen.push e.born).contains x.born) < k:=Nat.lt_of_le_of_lt (hsub.countP_le (p:=fun x => !(seen.push e.born).contains x.born)) hcount
    show Exit.inBlock b7 _ .normal _ _
    refine ⟨_,hlt,G4,es',clk',seen.push e.born,clk',kk::Z,a4,fun k u hk=>hG3 k u (by rw[← f4];exact hk),by rw[f4];exact hfx3,?_,?_,⟨nu',⟨m4,hn2'.size,hn2'.defers,fun d hd=>(hn2'.slots d hd).mono le4⟩⟩,?_,u1,?_,hst',fun x hx=>hold x (hsub.subset hx),hsk,hsk,?_,?_,rfl⟩
    ·rw[gw4,A4,u3]
     exact ⟨(Array.getElem?_eq_some_iff.1 x1).1,zob hn2'.mem hbm3.1 hbm3.2⟩
    ·rw[gw4,A4,u3]
     exact ⟨(Array.getElem?_eq_some_iff.1 x2).1,zob hn2'.mem hr03.1 hr03.2⟩
    ·show ((a'.put (some d138) (.map (some bm))).put (some d139) (.int .i64 kk)).tmps.getD dIt undef=_
     rw[t2,if_neg ne5,if_neg ne4];exact hit'
    ·rw[u2 r00 hnr];exact x2
    ·rw[hmap',List.filter_filter]
     congr 1
     refine List.filter_congr fun p hp=>?_
     by_cases hpk:p.1=kk
     ·have:=zzv hnd hp hpl hpk
      subst this
      have hd:dl (kk,xx)=true:=(hdl1 _).2 hA'
      simp[hd]
     ·simp[hpk]
    ·intro e' he' hs'
     rw[Array.contains_push] at hs'
     simp only[Bool.or_eq_true,beq_iff_eq] at hs'
     have he':=hsub.subset he'
     rcases hs' with hs' | hs'
     ·obtain ⟨q,h1,h2⟩:=hseen e' he' hs'
      exact ⟨q,h1,List.mem_cons_of_mem _ h2⟩
     ·rw[z0j hst.2.1 he' hemem hs']
      exact ⟨kk,hkey,List.mem_cons_self⟩
   ·refine hrest _ (hB' _) _ fun s a' w' hi' e' he' hs'=>?_
    have he':e'=.exit b7:=he'
    refine ⟨fun h=>absurd (h.symm.trans he') (by simp),fun _=>?_⟩
    rw[hs'] at hi'
    rw[he']
    obtain ⟨nu',hn'⟩:=hi'
    have hn':NInv G3 ⟨n,(dIt,.val (.pointer (some ⟨r00,0,none⟩)))::(a.at n N v).sl,(a.at n N v).blks⟩ nu' a' w':=hn'
    have hit':a'.tmps.getD dIt undef=.pointer (some ⟨r00,0,none⟩):=hn'.val (by unfold St.slot;simp[hnIt,lk])
    have hn'':NInv G3 (a.at n N v) nu' a' w':=hn'.lessS yIt
    obtain ⟨x1,x2⟩:=hfin a' w' nu' hn''
    simp only[Exit.inBlock,if_true]
    refine ⟨_,hcount,G3,es,clk',seen.push e.born,clk',kk::Z,a3,hG3,hfx3,hbm3,hr03,⟨nu',hn''⟩,hit',x1,x2,hst,hold,hsk,hsk,?_,?_,rfl⟩
    ·rw[hmap]
     congr 1
     refine List.filter_congr fun p hp=>?_
     cases hd:dl p with
     | false=>rfl
     | true =>
      have hpne:p.1≠kk:=by
       intro q
       have:=zzv hnd hp hpl q
       rw[this] at hd
       have h1:=(hdl1 _).1 hd (.pointer (some ⟨r00,0,none⟩))
       have h2:=hB' (.pointer (some ⟨r00,0,none⟩))
       simp only at h1 h2
       rw[h1] at h2;cases h2
      simp[hpne]
    ·intro e' he' hs'
     rw[Array.contains_push] at hs'
     simp only[Bool.or_eq_true,beq_iff_eq] at hs'
     rcases hs' with hs' | hs'
     ·obtain ⟨q,h1,h2⟩:=hseen e' he' hs'
      exact ⟨q,h1,List.mem_cons_of_mem _ h2⟩
     ·rw[z0j hst.2.1 he' hemem hs']
      exact ⟨kk,hkey,List.mem_cons_self⟩
