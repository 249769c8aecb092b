/-
  The walk over abstract states.
-/
import Derived.Test.YtiacgjebngnddaaGreatXAbC
namespace Go.Proofs.YtiacgjebngnddaaGreat.Ab
open Go Go.RowKit
set_option linter.unusedVariables false
set_option linter.unusedSimpArgs false
def z8d (l:List Asked) (i:Int):Option (List Asked):=if 0≤i∧i≤l.length then some (l.take i.toNat++List.replicate (l.length - i.toNat) default) else none
def clearL (a c d0 d1 d2:Nat) (st:St):Option LR :=
 match Nat.blt d0 st.n&&(Nat.blt d1 st.n&&Nat.blt d2 st.n) with
 | true=>match st.slot a,st.slot c with
  | .own j,.val (.int .i64 i)=>match st.blks.getD j .dead with
   | .rows F (.asked l)=>some (.one (z8d l i) (fun r=>(.normal,⟨st.n,st.sl.filter (fun p => !(Nat.beq p.1 d0||(Nat.beq p.1 d1||Nat.beq p.1 d2))),st.blks.set j (.rows F (.asked r))⟩)))
   | _=>none
  | _,_=>none
 | false=>none
theorem zxu {P:Program} {ops:Array Oper} {R:Exit→Act→World→Prop} {i:Nat} {o:Oper} {K:Act→World→Prop} {a:Act} {w:World} {Q:Value→World→Prop} (ho:ops[i]?=some o) (hg:o.guard=none)
  (hd:Does P o a.eval w Q) (hK:∀ v w',Q v w'→K (a.put o.dst v) w'):wpOp P ops R i K a w:=by
 unfold wpOp
 have hw:Region.wanted o (yielded ops a.tmps)=true:=by simp[Region.wanted,hg]
 simp only[ho,hw,if_true]
 exact .inl (hd.wp fun v w' h=>hK v w' h)
theorem z6m {a:Act} {d d':Nat} {v:Value} (hd:d < a.tmps.size):(a.put (some d) v).tmps.getD d' undef=if d'=d then v else a.tmps.getD d' undef:=by
 by_cases h:d'=d
 ·subst h
  simp[Act.put,Array.getD,hd]
 ·simp[Act.put,h,Array.getElem?_setIfInBounds_ne (Ne.symm h)]
theorem z1y (q:Nat→Bool):∀ (l:List (Nat×AV)) (d:Nat),lk (l.filter fun p=>q p.1) d=if q d=true then lk l d else .any
 | [],d=>by simp[lk]
 | p::l,d=>by
  rw[List.filter_cons]
  by_cases h:q p.1=true
  ·rw[if_pos h]
   simp only[lk]
   by_cases e:d=p.1
   ·rw[if_pos e,if_pos e,if_pos (by rw[e];exact h)]
   ·rw[if_neg e,if_neg e,z1y q l d]
  ·rw[if_neg h,z1y q l d]
   simp only[lk]
   by_cases e:d=p.1
   ·rw[if_neg (by rw[e];exact h),if_neg (by rw[e];exact h)]
   ·rw[if_neg e]
def zeroAsked:List Value:=[.int .i64 0,.int .i64 0,.int .i64 0,.int .i64 0,.int .i64 0,.slice none 0 0,.slice none 0 0]
theorem zao1 (C:Cx) (r:List Asked) (k c:Nat) (hk:r.getD k default=default) (hc:c < 7):Rd C ((Sl.asked r).cell k c) (zeroAsked.getD c undef):=by
 have e:(Sl.asked r).cell k c=(Asked.cells default).getD c .any:=by
  show ((Sl.asked r).row k).getD c .any=_
  show (Asked.cells (r.getD k default)).getD c .any=_
  rw[hk]
 rw[e]
 match c,hc with
 | 0,_=>exact Rd.val
 | 1,_=>exact Rd.val
 | 2,_=>exact Rd.val
 | 3,_=>exact Rd.val
 | 4,_=>exact Rd.val
 | 5,_=>exact Rd.slnil rfl
 | 6,_=>exact Rd.slnil rfl
theorem z6n {z:Array Value} {m k c:Nat} (h7:z.size=7) (hk:k < m) (hc:c < 7):(Builtin.zeroCells z m).toList[k*7+c]?=z.toList[c]?:=by
 have hlt:k*7+c < m*7:=by omega
 rw[Array.getElem?_toList,Builtin.zeroCells,h7,Array.getElem?_map,Array.getElem?_range,if_pos hlt]
 have:(k*7+c) % 7=c:=by omega
 simp only[Option.map_some,this]
 rw[Array.getElem?_toList,Array.getElem?_eq_getElem (by omega),getElem!_pos z c (by omega)]
section
variable {P:Program} {G:Gl} {blks:List Blk} {nu:Nat→Option Value} {w:World}
theorem zaha (h:MInv G blks nu w) {j T E F:Nat} {l:List Asked} {i:Int} {v z:Value} {vs:List Value} (hb:blks.getD j .dead=.rows F (.asked l)) (e1:nu j=some v) (e2:w.ownsRow 0 F 7 v l.length vs)
  (e3:∀ k c,k < l.length→c < 7→Rd (cx G blks nu w) ((Sl.asked l).cell k c) (vs.getD (k*7+c) undef)) (e4:l.length≤maxLen) (hbd:0≤i∧i≤(l.length:Int))
  (hT:P.underlying T=some (.slice E)) (hn:zi P (sizeOf E)=some 7) (hz:zi P (zeroValue E)=some z) (hzc:z.cells.toList=zeroAsked) :
  ∃ v2 w',(Instr.slice T v (some (.int .i64 i)) none none).run P w=.ok v2 w∧(∀ ty,(Builtin.clear_ #[T] ty #[v2]).run P w=.ok (.tuple #[]) w') ∧
   (cx G blks nu w).Le (cx G (blks.set j (.rows F (.asked (l.take i.toNat++List.replicate (l.length - i.toNat) default)))) nu w') ∧
   MInv G (blks.set j (.rows F (.asked (l.take i.toNat++List.replicate (l.length - i.toNat) default)))) nu w':=by
 have hjl:j < blks.length:=by
  rcases Nat.lt_or_ge j blks.length with h1 | h1
  ·exact h1
  ·rw[yy0,List.getElem?_eq_none h1] at hb;cases hb
 have hz7:z.cells.size=7:=by rw[← Array.length_toList,hzc];rfl
 have hsl:∀ (a:Option Addr) (cap:Nat),l.length≤cap→(Instr.slice T (.slice a l.length cap) (some (.int .i64 i)) none none).run P w=.ok (.slice (if cap=i.toNat then a else a.map (·.add (i.toNat*7))) (l.length - i.toNat) (cap - i.toNat)) w:=by
  intro a cap hc
  have hrun:=znz (P:=P) (isSlice:=true) (len:=l.length) (cap:=cap) (lo:=some (.int .i64 i)) (hi:=none) (l:=i) (r:=l.length) (.inr ⟨_,rfl⟩) (.inl ⟨rfl,rfl⟩) hbd.1 hbd.2 (Int.le_refl _) hc w
  simp only[Instr.slice,Sem.run_bind,run_underlying hT,Result.andThen_ok,hrun,zj hn w,Sem.run_pure,yy4]
 by_cases hi:i.toNat=l.length
 ·have er:l.take i.toNat++List.replicate (l.length - i.toNat) default=l:=by rw[hi,List.take_length,Nat.sub_self];simp
  rw[er]
  have es:blks.set j (.rows F (.asked l))=blks:=by
   apply List.ext_getElem?
   intro q
   by_cases hq:q=j
   ·subst hq
    rw[List.getElem?_set_self hjl,← hb,yy0,yy3 hjl];rfl
   ·exact List.getElem?_set_ne (fun e=>hq e.symm)
  rw[es]
  have hcl:∀ (a:Option Addr) (cap:Nat) ty,(Builtin.clear_ #[T] ty #[.slice a (l.length - i.toNat) cap]).run P w=.ok (.tuple #[]) w:=by
   intro a cap ty
   rw[hi,Nat.sub_self]
   cases a<;>simp[Builtin.clear_,run_underlying hT]
  obtain ⟨q1,q2⟩:=e2
  rcases q2 with ⟨rfl,h0⟩ | ⟨gg,cap,cur,rfl,q3,q4,q5,q6,q7,q8⟩
  ·refine ⟨_,w,by have:=hsl none 0 (by omega);rw[h0] at this;exact this,fun ty=>?_,.refl _,h⟩
   have:=hcl none 0 ty
   rw[h0] at this
   have e0:i.toNat=0:=by omega
   rw[e0] at this ⊢
   exact this
  ·exact ⟨_,w,hsl _ cap q5,fun ty=>hcl _ _ ty,.refl _,h⟩
 ·have hlt:i.toNat < l.length:=by omega
  generalize hk:i.toNat=n at *
  obtain ⟨q1,q2⟩:=e2
  rcases q2 with ⟨rfl,h0⟩ | ⟨g,cap,cur,rfl,q3,hg,hcap1,hcap2,hcap3,htk⟩
  ·omega
  ·have hne:cap≠n:=by omega
   have hs:=hsl (some ⟨g,0,none⟩) cap hcap1
   rw[if_neg hne,Option.map_some,z7,Nat.zero_add] at hs
   refine ⟨_,w.setRow g (cur.toList.take (n*7)++(Builtin.zeroCells z.cells (l.length - n)).toList++cur.toList.drop (n*7+(Builtin.zeroCells z.cells (l.length - n)).toList.length)).toArray,hs,fun ty=>?_,?_⟩
   ·have hzl:(Builtin.zeroCells z.cells (l.length - n)).toList.length=(l.length - n)*7:=by rw[Builtin.zeroCells,hz7];simp
    have hst:=run_storeCells_at (P:=P) g (n*7) F (Builtin.zeroCells z.cells (l.length - n)).toList 0 cur w hg (by rw[hzl,hcap3];omega) (by
     intro u hu
     rw[Array.mem_toList_iff,Builtin.zeroCells,Array.mem_map] at hu
     obtain ⟨q,_,rfl⟩:=hu
     have hq:q % z.cells.size < z.cells.size:=Nat.mod_lt _ (by omega)
     have key:∀ u,u∈zeroAsked→u.oneCell'=true:=by
      intro u hu
      simp only[zeroAsked,List.mem_cons,List.not_mem_nil,or_false] at hu
      rcases hu with e | e | e | e | e | e | e<;>(subst e;rfl)
     rw[getElem!_pos z.cells _ hq]
     refine key _ ?_
     rw[← hzc]
     exact Array.mem_toList_iff.2 (Array.getElem_mem hq))
    simp only[Nat.add_zero] at hst
    obtain ⟨m,hm⟩:∃ m,l.length - n=m+1:=⟨l.length - n - 1,by omega⟩
    rw[hm] at hst ⊢
    simp[Builtin.clear_,run_underlying hT,zj hz w,hst]
   ·have hzl:(Builtin.zeroCells z.cells (l.length - n)).toList.length=(l.length - n)*7:=by rw[Builtin.zeroCells,hz7];simp
    have hzg:∀ k c,k < l.length - n→c < 7→(Builtin.zeroCells z.cells (l.length - n)).toList[k*7+c]?=zeroAsked[c]?:=fun k c h1 h2=>by rw[z6n hz7 h1 h2,hzc]
    generalize (Builtin.zeroCells z.cells (l.length - n)).toList=us at *
    have hcl:cur.toList.length=cap*7:=by rw[Array.length_toList];exact hcap3
    have hAus:n*7+us.length≤vs.length:=by rw[hzl,q1];omega
    have hAcu:n*7+us.length≤cur.toList.length:=by rw[hcl,hzl];omega
    generalize hcur':(cur.toList.take (n*7)++us++cur.toList.drop (n*7+us.length))=cur'
    have hcurlen:cur'.length=cap*7:=by rw[← hcur',zho hAcu,hcl]
    generalize hvs':(vs.take (n*7)++us++vs.drop (n*7+us.length))=vs'
    have hvlen:vs'.length=vs.length:=by rw[← hvs',zho hAus]
    have htk':cur'.take (l.length*7)=vs':=by
     rw[← hcur',← hvs',← htk]
     exact zwt (by rw[← q1];exact hAus) (by rw[hcl];omega)
    have hg':(w.setRow g cur'.toArray).heap[g]?=some (.cells cur'.toArray F (0,0)):=setRow_heap w g _ _ F _ hg
    have hown':(w.setRow g cur'.toArray).ownsRow 0 F 7 (.slice (some ⟨g,0,none⟩) l.length cap) l.length vs':=by
     refine ⟨by rw[hvlen,q1],.inr ⟨g,cap,cur'.toArray,rfl,Nat.zero_le _,hg',hcap1,hcap2,?_,?_⟩⟩
     ·simp only[List.size_toArray];exact hcurlen
     ·simpa using htk'
    have hrl:(l.take n++List.replicate (l.length - n) default).length=l.length:=by simp;omega
    have hread:∀ C',(cx G blks nu w).Le C'→∀ k c,k < (Sl.asked (l.take n++List.replicate (l.length - n) default)).len→c < (Sl.asked (l.take n++List.replicate (l.length - n) default)).sz →
      Rd C' ((Sl.asked (l.take n++List.replicate (l.length - n) default)).cell k c) (vs'.getD (k*(Sl.asked (l.take n++List.replicate (l.length - n) default)).sz+c) undef):=by
     intro C' hle k c hk hc
     have hk:k < l.length:=by have:k < (l.take n++List.replicate (l.length - n) default).length:=hk;omega
     have hc:c < 7:=hc
     show Rd C' _ (vs'.getD (k*7+c) undef)
     rw[← hvs',yy0,zk1? hAus]
     by_cases h1:k < n
     ·rw[if_pos (by omega),← yy0]
      have e:(Sl.asked (l.take n++List.replicate (l.length - n) default)).cell k c=(Sl.asked l).cell k c:=by
       show (Asked.cells ((l.take n++List.replicate (l.length - n) default).getD k default)).getD c .any=(Asked.cells (l.getD k default)).getD c .any
       congr 2
       rw[yy0,List.getElem?_append_left (by rw[List.length_take];omega),List.getElem?_take_of_lt h1,← yy0]
      rw[e]
      exact (e3 k c hk hc).mono hle
     ·rw[if_neg (by omega),if_pos (by rw[hzl];omega)]
      have e:k*7+c - n*7=(k - n)*7+c:=by omega
      rw[e,hzg _ _ (by omega) hc,← yy0]
      refine zao1 C' _ k c ?_ hc
      rw[yy0,List.getElem?_append_right (by rw[List.length_take];omega),List.getElem?_replicate]
      split<;>rfl
    exact MInv.rewrite h (r:=.asked (l.take n++List.replicate (l.length - n) default)) hb e1 hrl rfl hown' hread e4 (fun k hk=>setRow_other w g k _ hk) (by simp[World.setRow]) rfl rfl rfl
theorem zaa1 {Y:EnvT} {Lc id a c d0 d1 d2 T E:Nat} {o0 o1 o2 o3:Oper} (p0:o0.op=.move (.tmp a)) (p1:o1.op=.move (.tmp c)) (p2:o2.op=.slice T (.tmp d0) (some (.tmp d1)) none none)
  (p3:o3.op=.call { callee:=.builtin .clear,args:=#[.tmp d2],argTypes:=#[T] }) (f0:o0.dst=some d0) (f1:o1.dst=some d1) (f2:o2.dst=some d2) (f3:o3.dst=none)
  (g0:o0.guard=none) (g1:o1.guard=none) (g2:o2.guard=none) (g3:o3.guard=none) (n1:d0≠c) (n2:d0≠d1) {z:Value}
  (hT:Y.P.underlying T=some (.slice E)) (hn:zi Y.P (sizeOf E)=some 7) (hz:zi Y.P (zeroValue E)=some z) (hzc:z.cells.toList=zeroAsked) :
  zl Y.env Lc (.region id #[o0,o1,o2,o3] false) (clearL a c d0 d1 d2):=by
 intro st R hR G _ Q hQ
 unfold clearL at hR
 split at hR
 ·rename_i hlt
  simp only[yy7] at hlt
  have l0:=Nat.le_of_ble_eq_true hlt.1
  have l1:=Nat.le_of_ble_eq_true hlt.2.1
  have l2:=Nat.le_of_ble_eq_true hlt.2.2
  split at hR
  ·rename_i j i ha hc
   split at hR
   ·rename_i F l hb
    simp only[yy1] at hR
    subst hR
    obtain ⟨r,hr,hq⟩:=hQ
    unfold z8d at hr
    split at hr
    ·rename_i hbd
     simp only[yy1] at hr
     subst hr
     intro act w hi
     obtain ⟨nu,hn'⟩:=hi
     have hm:=hn'.mem
     have hk:=hm.ok j
     rw[hb] at hk
     obtain ⟨v,vs,e1,e2,e3,e4⟩:=hk
     have hsz:=hn'.size
     have hva:act.tmps.getD a undef=v:=by
      by_cases q:a < st.n
      ·have:=hn'.slots a q
       rw[ha] at this
       generalize act.tmps.getD a undef=u at this
       cases this with
       | own h2=>have:=h2.symm.trans e1;simpa using this
      ·unfold St.slot at ha;rw[if_neg q] at ha;cases ha
     have hvc:act.tmps.getD c undef=.int .i64 i:=by
      by_cases q:c < st.n
      ·have:=hn'.slots c q
       rw[hc] at this
       generalize act.tmps.getD c undef=u at this
       cases this;rfl
      ·unfold St.slot at hc;rw[if_neg q] at hc;cases hc
     obtain ⟨v2,w',c1,c2,c3,c4⟩:=zaha (P:=Y.P) hm hb e1 e2 e3 e4 hbd hT hn hz hzc
     refine wp_region ?_
     show wpOps Y.P #[o0,o1,o2,o3] _ [0,1,2,3] act w
     rw[wpOps_cons]
     refine zxu (o:=o0) (Q:=fun u w1=>u=v∧w1=w) rfl g0 (Does.value (v:=v) (w':=w) (by
      have:act.eval (.tmp a)=v:=hva
      simp[execOp,p0,this]) ⟨rfl,rfl⟩) fun u w1 hu=>?_
     obtain ⟨rfl,rfl⟩:=hu
     rw[f0,wpOps_cons]
     have t0:∀ d,(act.put (some d0) u).tmps.getD d undef=if d=d0 then u else act.tmps.getD d undef:=fun d=>z6m (by omega)
     refine zxu (o:=o1) (Q:=fun u1 w1'=>u1=.int .i64 i∧w1'=w1) rfl g1 (Does.value (v:=.int .i64 i) (w':=w1) (by
      have:(act.put (some d0) u).eval (.tmp c)=.int .i64 i:=by
       show (act.put (some d0) u).tmps.getD c undef=_
       rw[t0,if_neg (Ne.symm n1)];exact hvc
      simp[execOp,p1,this]) ⟨rfl,rfl⟩) fun u1 w1' hu=>?_
     obtain ⟨rfl,rfl⟩:=hu
     rw[f1,wpOps_cons]
     have s0:(act.put (some d0) u).tmps.size=act.tmps.size:=by simp[Act.put]
     have t1:∀ d,((act.put (some d0) u).put (some d1) (.int .i64 i)).tmps.getD d undef=if d=d1 then .int .i64 i else if d=d0 then u else act.tmps.getD d undef:=fun d=>by rw[z6m (by omega),t0]
     refine zxu (o:=o2) (Q:=fun u1 w2=>u1=v2∧w2=w1') rfl g2 (Does.value (v:=v2) (w':=w1') (by
      have x0:((act.put (some d0) u).put (some d1) (.int .i64 i)).eval (.tmp d0)=u:=by
       show ((act.put (some d0) u).put (some d1) (.int .i64 i)).tmps.getD d0 undef=_
       rw[t1,if_neg n2,if_pos rfl]
      have x1:((act.put (some d0) u).put (some d1) (.int .i64 i)).eval (.tmp d1)=.int .i64 i:=by
       show ((act.put (some d0) u).put (some d1) (.int .i64 i)).tmps.getD d1 undef=_
       rw[t1,if_pos rfl]
      have hat:(Instr.sliceAt T u (some (.int .i64 i)) none none).run Y.P w1'=(Instr.slice T u (some (.int .i64 i)) none none).run Y.P w1':=run_sliceAt_slice w1' T _ _ _ _ (by rw[hT];simp[Program.elem,hT])
      simp[execOp,p2,x0,x1,hat,c1]) ⟨rfl,rfl⟩) fun u2 w2 hu=>?_
     obtain ⟨rfl,rfl⟩:=hu
     rw[f2,wpOps_cons]
     have s1:((act.put (some d0) u).put (some d1) (.int .i64 i)).tmps.size=act.tmps.size:=by simp[Act.put]
     have t2:∀ d,(((act.put (some d0) u).put (some d1) (.int .i64 i)).put (some d2) u2).tmps.getD d undef=if d=d2 then u2 else if d=d1 then .int .i64 i else if d=d0 then u else act.tmps.getD d undef:=fun d=>by rw[z6m (by omega),t1]
     refine zxu (o:=o3) (Q:=fun u3 w3=>w3=w') rfl g3 (Does.value (v:=.tuple #[]) (w':=w') (by
      have x0:(((act.put (some d0) u).put (some d1) (.int .i64 i)).put (some d2) u2).eval (.tmp d2)=u2:=by
       show (((act.put (some d0) u).put (some d1) (.int .i64 i)).put (some d2) u2).tmps.getD d2 undef=_
       rw[t2,if_pos rfl]
      have:=c2 o3.type
      simp[execOp,p3,resolve,x0,invoke,builtin,this]) rfl) fun u3 w3 hu=>?_
     subst hu
     rw[f3]
     refine ⟨_,hq,nu,⟨c4,?_,?_,fun d hd=>?_⟩⟩
     ·simp[Act.put,hsz]
     ·simpa[Act.put] using hn'.defers
     ·have e:St.slot ⟨st.n,st.sl.filter (fun p => !(Nat.beq p.1 d0||(Nat.beq p.1 d1||Nat.beq p.1 d2))),st.blks.set j (.rows F (.asked (l.take i.toNat++List.replicate (l.length - i.toNat) default)))⟩ d=if (!(Nat.beq d d0||(Nat.beq d d1||Nat.beq d d2)))=true then st.slot d else .any:=by
       show (if d < st.n then lk _ d else .any)=_
       rw[z1y (fun x => !(Nat.beq x d0||(Nat.beq x d1||Nat.beq x d2)))]
       unfold St.slot
       rw[if_pos hd,if_pos hd]
      show Rd _ (St.slot ⟨st.n,st.sl.filter (fun p => !(Nat.beq p.1 d0||(Nat.beq p.1 d1||Nat.beq p.1 d2))),st.blks.set j (.rows F (.asked (l.take i.toNat++List.replicate (l.length - i.toNat) default)))⟩ d) ((((act.put (some d0) u).put (some d1) (.int .i64 i)).put (some d2) u2).tmps.getD d undef)
      rw[e,t2]
      by_cases q:d=d2∨d=d1∨d=d0
      ·have:(!(Nat.beq d d0||(Nat.beq d d1||Nat.beq d d2)))=false:=by
        rcases q with rfl | rfl | rfl<;>simp
       rw[if_neg (by rw[this];simp)]
       exact Rd.any
      ·have q2:d≠d2:=fun x=>q (.inl x)
       have q1:d≠d1:=fun x=>q (.inr (.inl x))
       have q0:d≠d0:=fun x=>q (.inr (.inr x))
       have:(!(Nat.beq d d0||(Nat.beq d d1||Nat.beq d d2)))=true:=by
        have nb:∀ x y:Nat,x≠y→Nat.beq x y=false:=fun x y h=>by
         cases hb:Nat.beq x y with
         | false=>rfl
         | true=>exact absurd (Nat.eq_of_beq_eq_true hb) h
        rw[nb _ _ q0,nb _ _ q1,nb _ _ q2];rfl
       rw[if_pos this,if_neg q2,if_neg q1,if_neg q0]
       exact (hn'.slots d hd).mono c3
    ·cases hr
   ·cases hR
  ·cases hR
 ·cases hR
def zahb:Code→List Oper
 | .region _ ops _=>ops.toList
 | _=>[]
def idOf:Code→Nat
 | .region i _ _=>i
 | _=>0
theorem zakm {Y:EnvT} {Lc a c d0 d1 d2 T E:Nat} {k:Code} {z:Value} (hc:k=.region (idOf k) ⟨zahb k⟩ false)
  (h1:(zahb k).map (·.op)=[.move (.tmp a),.move (.tmp c),.slice T (.tmp d0) (some (.tmp d1)) none none,.call { callee:=.builtin .clear,args:=#[.tmp d2],argTypes:=#[T] }])
  (h2:(zahb k).map (·.dst)=[some d0,some d1,some d2,none]) (h3:(zahb k).map (·.guard)=[none,none,none,none]) (n1:d0≠c) (n2:d0≠d1)
  (hT:Y.P.underlying T=some (.slice E)) (hn:zi Y.P (sizeOf E)=some 7) (hz:zi Y.P (zeroValue E)=some z) (hzc:z.cells.toList=zeroAsked):zl Y.env Lc k (clearL a c d0 d1 d2):=by
 generalize zahb k=l at *
 generalize idOf k=id at *
 subst hc
 have hl:=congrArg List.length h3
 rcases l with _ | ⟨o0,_ | ⟨o1,_ | ⟨o2,_ | ⟨o3,_ | ⟨o4,l⟩⟩⟩⟩⟩
 ·simp at hl
 ·simp at hl
 ·simp at hl
 ·simp at hl
 ·simp only[List.map_cons,List.map_nil,List.cons.injEq,and_true] at h1 h2 h3
  exact zaa1 h1.1 h1.2.1 h1.2.2.1 h1.2.2.2 h2.1 h2.2.1 h2.2.2.1 h2.2.2.2 h3.1 h3.2.1 h3.2.2.1 h3.2.2.2 n1 n2 hT hn hz hzc
 ·simp at hl
end
