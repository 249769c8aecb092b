/-
  The walk over abstract states.
-/
import Derived.Test.YtobfadhgiaphnaaGreatXAbReg
namespace Go.Proofs.YtobfadhgiaphnaaGreat.Ab
open Go Go.RowKit
set_option linter.unusedSimpArgs false
set_option linter.unusedVariables false
def disj (l m:List Nat):Bool:=l.all fun x => !m.contains x
def z6s (f g:FP) (d d':Option Nat):Bool :=
 (match d,d' with | some x,some y=>x != y | _,_=>true) &&
 (match d with | some x => !g.rs.contains x | none=>true) &&
 (match d' with | some y => !f.rs.contains y | none=>true) &&
 disj f.wb g.rb&&disj f.wb g.wb&&disj g.wb f.rb
theorem z94 {l m:List Nat} (h:disj l m=true) {x:Nat} (hx:x∈l):x∉m:=by
 have:=List.all_eq_true.1 h x hx
 simpa using this
theorem z9f {j:Nat}:∀ (bs:List (Nat×Blk)) (l:List Blk),(∀ p,p∈bs→p.1≠j)→(upd l bs).getD j .dead=l.getD j .dead
 | [],l,_=>rfl
 | p::bs,l,h=>by
  show (upd (l.set p.1 p.2) bs).getD j .dead=_
  rw[z9f bs _ (fun q hq=>h q (List.mem_cons_of_mem _ hq))]
  exact getD_set_ne (h p (by simp))
theorem zaqd {k:Nat} {x:Blk}:∀ (bs:List (Nat×Blk)) (l:List Blk),(∀ p,p∈bs→p.1≠k)→upd (l.set k x) bs=(upd l bs).set k x
 | [],l,_=>rfl
 | p::bs,l,h=>by
  show upd ((l.set k x).set p.1 p.2) bs=(upd (l.set p.1 p.2) bs).set k x
  rw[List.set_comm _ _ (Ne.symm (h p (by simp))),zaqd bs _ (fun q hq=>h q (List.mem_cons_of_mem _ hq))]
theorem zal3:∀ (bs cs:List (Nat×Blk)) (l:List Blk),(∀ p q,p∈bs→q∈cs→p.1≠q.1)→upd (upd l bs) cs=upd (upd l cs) bs
 | [],cs,l,_=>rfl
 | p::bs,cs,l,h=>by
  show upd (upd (l.set p.1 p.2) bs) cs=upd ((upd l cs).set p.1 p.2) bs
  rw[zal3 bs cs _ (fun a b ha hb=>h a b (List.mem_cons_of_mem _ ha) hb),zaqd cs l (fun q hq=>(h p q (by simp) hq).symm)]
section
variable {Y:Env} {gs:List Nat} {ops:Array Oper} {ids:Nat→Nat} {fp:Nat→FP}
theorem zadr {f:FP} {st:RSt} {d:Option Nat} {sv:SV} {bs:List (Nat×Blk)} (hd:∀ x,d=some x→f.rs.contains x=false) (hb:∀ p,p∈bs→f.rb.contains p.1=false) :
  zc4 (some f) (st.apply d sv bs)=zc4 (some f) st:=by
 show View.mk _ _=View.mk _ _
 congr 1
 ·funext x
  split
  ·rename_i hx
   cases d with
   | none=>rfl
   | some y =>
    refine getD_set_ne (fun e=>?_)
    have:=hd y rfl
    rw[e,hx] at this;cases this
  ·rfl
 ·funext j
  split
  ·rename_i hj
   exact z9f bs _ (fun p hp e=>by have:=hb p hp;rw[e,hj] at this;cases this)
  ·rfl
theorem z95 {st:RSt} {d d':Option Nat} {sv:SV} {bs:List (Nat×Blk)} (hd:∀ x y,d=some x→d'=some y→x≠y):z45 gs (st.apply d sv bs) d'=z45 gs st d':=by
 cases d' with
 | none=>rfl
 | some y =>
  cases d with
  | none=>rfl
  | some x =>
   have:(st.apply (some x) sv bs).slot y=st.slot y:=getD_set_ne (hd x y rfl rfl)
   simp only[z45,this]
theorem z96 {i:Nat} {st s1:RSt} {ob:List Prop} (h:zmm Y ops gs ids (fun i=>some (fp i)) i st=some (ob,s1)) :
  ∃ o out,ops[i]?=some o∧core Y ops gs (ids i) (zc4 (some (fp i)) st) o=some out∧(∀ p,p∈out.bs→p.1∈(fp i).wb)∧z45 gs st o.dst=true∧ob=out.obl∧s1=st.apply o.dst out.sv out.bs:=by
 unfold zmm at h
 split at h
 ·cases h
 ·rename_i o ho
  split at h
  ·rename_i out hc
   split at h
   ·rename_i hok
    simp only[yy1,Prod.mk.injEq] at h
    refine ⟨o,out,ho,hc,fun p hp=>?_,hok.2,h.1.symm,h.2.symm⟩
    have:=List.all_eq_true.1 hok.1 p hp
    simpa using this
   ·cases h
  ·cases h
theorem zaho {i:Nat} {st:RSt} {o:Oper} {out:Out} (ho:ops[i]?=some o) (hc:core Y ops gs (ids i) (zc4 (some (fp i)) st) o=some out) (hw:∀ p,p∈out.bs→p.1∈(fp i).wb) (hd:z45 gs st o.dst=true) :
  zmm Y ops gs ids (fun i=>some (fp i)) i st=some (out.obl,st.apply o.dst out.sv out.bs):=by
 unfold zmm
 simp only[ho,hc]
 rw[if_pos]
 refine ⟨?_,hd⟩
 simp only[wbOk,List.all_eq_true]
 intro p hp
 simpa using hw p hp
theorem zaj2 {i j:Nat} {st s1 s12:RSt} {ob1 ob2:List Prop} {oi oj:Oper} (hi:ops[i]?=some oi) (hj:ops[j]?=some oj) (hap:z6s (fp i) (fp j) oi.dst oj.dst=true)
  (h1:zmm Y ops gs ids (fun i=>some (fp i)) i st=some (ob1,s1)) (h2:zmm Y ops gs ids (fun i=>some (fp i)) j s1=some (ob2,s12)) :
  ∃ s2,zmm Y ops gs ids (fun i=>some (fp i)) j st=some (ob2,s2)∧zmm Y ops gs ids (fun i=>some (fp i)) i s2=some (ob1,s12):=by
 unfold z6s at hap
 simp only[yy7] at hap
 obtain ⟨⟨⟨⟨⟨a1,a2⟩,a3⟩,a4⟩,a5⟩,a6⟩:=hap
 obtain ⟨o1,out1,e1,c1,w1,d1,rfl,rfl⟩:=z96 h1
 rw[hi] at e1;cases e1
 obtain ⟨o2,out2,e2,c2,w2,d2,rfl,rfl⟩:=z96 h2
 rw[hj] at e2;cases e2
 have hne:∀ x y,oi.dst=some x→oj.dst=some y→x≠y:=by
  intro x y hx hy
  rw[hx,hy] at a1
  simpa using a1
 have v2:zc4 (some (fp j)) (st.apply oi.dst out1.sv out1.bs)=zc4 (some (fp j)) st :=
  zadr (fun x hx=>by rw[hx] at a2;simpa using a2) (fun p hp=>by have:=z94 a4 (w1 p hp);simpa using this)
 have v1:zc4 (some (fp i)) (st.apply oj.dst out2.sv out2.bs)=zc4 (some (fp i)) st :=
  zadr (fun x hx=>by rw[hx] at a3;simpa using a3) (fun p hp=>by have:=z94 a6 (w2 p hp);simpa using this)
 rw[v2] at c2
 rw[z95 hne] at d2
 refine ⟨st.apply oj.dst out2.sv out2.bs,zaho hj c2 w2 d2,?_⟩
 have:=zaho (st:=st.apply oj.dst out2.sv out2.bs) hi (by rw[v1];exact c1) w1 (by rw[z95 (fun x y hx hy=>(hne y x hy hx).symm)];exact d1)
 rw[this]
 congr 2
 unfold RSt.apply
 congr 1
 ·cases hx:oi.dst with
  | none=>rfl
  | some x =>
   cases hy:oj.dst with
   | none=>rfl
   | some y=>exact List.set_comm _ _ (hne x y hx hy).symm
 ·exact zal3 _ _ _ (fun p q hp hq e=>z94 a5 (w1 q hq) (e ▸ w2 p hp))
def zahp (Y:Env) (ops:Array Oper) (gs:List Nat) (ids:Nat→Nat) (fp:Nat→FP) (Q:RSt→Prop):Nat→Array Bool→RSt→Prop
 | 0,listed,st=>Region.ready .any ops listed=[]∧Q st
 | fuel+1,listed,st=>(Region.ready .any ops listed=[]→Q st) ∧
  ∀ i∈Region.ready .any ops listed,∃ ob st',zmm Y ops gs ids (fun i=>some (fp i)) i st=some (ob,st')∧z15 ob∧zahp Y ops gs ids fp Q fuel (listed.setIfInBounds i true) st'
theorem z7z (hY:Y.Ok) {G:Gl} {Qs:RSt→Prop} {Q:Exit→Act→World→Prop} (hQ:∀ st nu a w,Qs st→RInv G gs st nu a w→Q .normal a w) :
  ∀ (fuel:Nat) (listed:Array Bool) (st:RSt) (nu:Nat→Option Value) (a:Act) (w:World),RInv G gs st nu a w→zahp Y ops gs ids fp Qs fuel listed st→wpAny Y.P .any ops Q fuel listed a w
 | 0,_,_,nu,_,_,h,hA=>⟨hA.1,hQ _ nu _ _ hA.2 h⟩
 | fuel+1,_,_,nu,_,_,h,hA=>⟨fun h0=>hQ _ nu _ _ (hA.1 h0) h,fun i hi=>by
   obtain ⟨ob,st',h1,h2,h3⟩:=hA.2 i hi
   exact zzl hY h h1 h2 fun nu' a' w' h'=>z7z hY hQ fuel _ _ nu' a' w' h' h3⟩
def Closed (ops:Array Oper) (listed:Array Bool):Prop :=
 ∀ j o,ops[j]?=some o→listed.getD j false=true→∀ e∈o.after,Region.binds .any e=true→listed.getD e.on false=true
def zaqe (o:Oper) (acc:List Nat):Nat:=o.after.toList.foldl (fun s e=>if Region.binds .any e then s ||| (2 ^ e.on ||| acc.getD e.on 0) else s) 0
def z4q:List Oper→List Nat→List Nat
 | [],acc=>acc
 | o::l,acc=>z4q l (acc++[zaqe o acc])
theorem zze:∀ (l:List Oper) (acc:List Nat) (j:Nat),j < acc.length→(z4q l acc).getD j 0=acc.getD j 0
 | [],acc,j,_=>rfl
 | o::l,acc,j,h=>by
  rw[z4q,zze l _ j (by simp;omega),yy0,List.getElem?_append_left h,← yy0]
theorem zal4:∀ (l:List Oper) (acc:List Nat) (j:Nat) (o:Oper),l[j]?=some o →
  ∃ acc',(z4q l acc).getD (acc.length+j) 0=zaqe o acc'∧acc'.length=acc.length+j∧∀ k,k < acc.length+j→acc'.getD k 0=(z4q l acc).getD k 0
 | [],acc,j,o,h=>by simp at h
 | o'::l,acc,0,o,h=>by
  simp only[List.getElem?_cons_zero,yy1] at h
  subst h
  refine ⟨acc,?_,rfl,fun k hk=>(zze _ acc k (by simpa using hk)).symm⟩
  rw[z4q,zze l _ _ (by simp),yy0,List.getElem?_append_right (by simp)]
  simp
 | o'::l,acc,j+1,o,h=>by
  simp only[List.getElem?_cons_succ] at h
  obtain ⟨acc',h1,h2,h3⟩:=zal4 l (acc++[zaqe o' acc]) j o h
  simp only[yy6,List.length_cons,List.length_nil] at h1 h2 h3
  refine ⟨acc',?_,by omega,fun k hk=>?_⟩
  ·rw[z4q,← h1];congr 1;omega
  ·rw[z4q];exact h3 k (by omega)
theorem zads (acc:List Nat) (i:Nat):∀ (es:List Edge) (s:Nat),(es.foldl (fun s e=>if Region.binds .any e then s ||| (2 ^ e.on ||| acc.getD e.on 0) else s) s).testBit i=true →
  s.testBit i=true∨∃ e∈es,Region.binds .any e=true∧(e.on=i∨(acc.getD e.on 0).testBit i=true)
 | [],s,h=>.inl h
 | e::es,s,h=>by
  rcases zads acc i es _ h with h1 | ⟨e',h1,h2,h3⟩
  ·dsimp only at h1
   split at h1
   ·rename_i hb
    rw[Nat.testBit_or,Nat.testBit_or,Nat.testBit_two_pow] at h1
    simp only[Bool.or_eq_true,decide_eq_true_eq] at h1
    rcases h1 with h1 | h1 | h1
    ·exact .inl h1
    ·exact .inr ⟨e,by simp,hb,.inl h1⟩
    ·exact .inr ⟨e,by simp,hb,.inr h1⟩
   ·exact .inl h1
  ·exact .inr ⟨e',List.mem_cons_of_mem _ h1,h2,h3⟩
theorem zaqf {j i:Nat} {o:Oper} (ho:ops[j]?=some o) (h:((z4q ops.toList []).getD j 0).testBit i=true) :
  ∃ e∈o.after,Region.binds .any e=true∧(e.on=i∨(e.on < j∧((z4q ops.toList []).getD e.on 0).testBit i=true)):=by
 obtain ⟨acc',h1,h2,h3⟩:=zal4 ops.toList [] j o (by simpa using ho)
 simp only[List.length_nil,Nat.zero_add] at h1 h2 h3
 rw[h1] at h
 rcases zads acc' i _ _ h with h4 | ⟨e,h4,h5,h6⟩
 ·simp at h4
 ·refine ⟨e,by simpa using h4,h5,h6.imp id fun h7=>?_⟩
  by_cases hlt:e.on < j
  ·exact ⟨hlt,by rw[← h3 e.on hlt];exact h7⟩
  ·rw[yy0,List.getElem?_eq_none (by omega)] at h7
   simp at h7
theorem zaj3 {listed:Array Bool} (hcl:Closed ops listed) {i:Nat}:∀ (j:Nat) (o:Oper),ops[j]?=some o→(∀ e∈o.after,Region.binds .any e=true→listed.getD e.on false=true) →
  ((z4q ops.toList []).getD j 0).testBit i=true→listed.getD i false=true:=by
 intro j
 induction j using Nat.strongRecOn with
 | _ j ih =>
  intro o ho hp hm
  obtain ⟨e,h1,h2,h3⟩:=zaqf ho hm
  rcases h3 with rfl | ⟨hlt,h3⟩
  ·exact hp e h1 h2
  ·cases ho':ops[e.on]? with
   | none =>
    have:ops.toList.length≤e.on:=by simpa using ho'
    have hj:j < ops.size:=(Array.getElem?_eq_some_iff.1 ho).1
    simp at this;omega
   | some o'=>exact ih e.on hlt o' ho' (fun e' he' hb'=>hcl e.on o' ho' (hp e h1 h2) e' he' hb') h3
theorem zanr {listed:Array Bool} (hcl:Closed ops listed) {i:Nat} (hi:i∈Region.ready .any ops listed):Closed ops (listed.setIfInBounds i true):=by
 intro j o ho hl e he hb
 by_cases hij:i=j
 ·subst hij
  obtain ⟨_,o',ho',hall⟩:=mem_ready.1 hi
  rw[ho] at ho';cases ho'
  exact getD_set_true (hall e he hb)
 ·rw[Go.getD_set_ne false hij] at hl
  exact getD_set_true (hcl j o ho hl e he hb)
theorem zahq {Q:RSt→Prop} {i:Nat} {oi:Oper} (hoi:ops[i]?=some oi) {ob1:List Prop} (hob:z15 ob1) :
  ∀ (fuel:Nat) (listed:Array Bool) (st s1:RSt),Closed ops listed→i∈Region.ready .any ops listed →
   (∀ j oj,ops[j]?=some oj→j≠i→listed.getD j true=false→((z4q ops.toList []).getD j 0).testBit i=true∨z6s (fp i) (fp j) oi.dst oj.dst=true) →
   zmm Y ops gs ids (fun i=>some (fp i)) i st=some (ob1,s1) →
   zahp Y ops gs ids fp Q fuel (listed.setIfInBounds i true) s1→zahp Y ops gs ids fp Q (fuel+1) listed st:=by
 intro fuel
 induction fuel with
 | zero =>
  intro listed st s1 hcl hi hap hs H
  refine ⟨fun h=>(by rw[h] at hi;cases hi),fun j hj=>?_⟩
  by_cases hji:j=i
  ·subst hji;exact ⟨ob1,s1,hs,hob,H⟩
  ·have:=ready_mono hj hji
   rw[H.1] at this;cases this
 | succ fuel ih =>
  intro listed st s1 hcl hi hap hs H
  refine ⟨fun h=>(by rw[h] at hi;cases hi),fun j hj=>?_⟩
  by_cases hji:j=i
  ·subst hji;exact ⟨ob1,s1,hs,hob,H⟩
  ·obtain ⟨ob2,s12,h1,h2,h3⟩:=H.2 j (ready_mono hj hji)
   obtain ⟨hj0,oj,hoj,hjall⟩:=mem_ready.1 hj
   obtain ⟨hi0,oi',hoi',hiall⟩:=mem_ready.1 hi
   have hapij:z6s (fp i) (fp j) oi.dst oj.dst=true:=by
    rcases hap j oj hoj hji hj0 with hm | hm
    ·have:=zaj3 hcl j oj hoj hjall hm
     have hlt:i < listed.size:=by
      rcases Nat.lt_or_ge i listed.size with h' | h'
      ·exact h'
      ·simp[Array.getElem?_eq_none h'] at this
     simp[hlt] at this hi0
     rw[this] at hi0;cases hi0
    ·exact hm
   obtain ⟨s2,h4,h5⟩:=zaj2 hoi hoj hapij hs h1
   refine ⟨ob2,s2,h4,h2,ih (listed.setIfInBounds j true) s2 s12 (zanr hcl hj) (ready_mono hi (Ne.symm hji)) (fun k ok hk hki hl=>hap k ok hk hki ?_) h5 ?_⟩
   ·by_cases hkj:j=k
    ·subst hkj;exact hj0
    ·rw[Go.getD_set_ne true hkj] at hl;exact hl
   ·have hcomm:(listed.setIfInBounds j true).setIfInBounds i true=(listed.setIfInBounds i true).setIfInBounds j true:=by
     apply Array.ext_getElem?
     intro k
     simp only[Array.getElem?_setIfInBounds,Array.size_setIfInBounds]
     split<;>split<;>simp_all
    rw[hcomm];exact h3
def zaqg (ops:Array Oper) (fp:Nat→FP):Bool :=
 (ops.toList.zipIdx.all fun p=>p.1.after.toList.all fun e => !Region.binds .any e||decide (e.on < p.2)) &&
 ops.toList.zipIdx.all fun p=>(ops.toList.zipIdx.take p.2).all fun q=>((z4q ops.toList []).getD p.2 0).testBit q.2||z6s (fp q.2) (fp p.2) q.1.dst p.1.dst
theorem zans (h:zaqg ops fp=true):(∀ (j:Nat) (o:Oper),ops[j]?=some o→∀ e∈o.after,Region.binds .any e=true→e.on < j) ∧
  ∀ (k j:Nat) (ok oj:Oper),k < j→ops[k]?=some ok→ops[j]?=some oj→((z4q ops.toList []).getD j 0).testBit k=true∨z6s (fp k) (fp j) ok.dst oj.dst=true:=by
 unfold zaqg at h
 simp only[yy7] at h
 obtain ⟨h1,h2⟩:=h
 have hmem:∀ (j:Nat) (o:Oper),ops[j]?=some o→(o,j)∈ops.toList.zipIdx:=by
  intro j o ho
  rw[List.mem_zipIdx_iff_getElem?]
  simpa using ho
 constructor
 ·intro j o ho e he hb
  have:=List.all_eq_true.1 (List.all_eq_true.1 h1 _ (hmem j o ho)) e (by simpa using he)
  simpa[hb] using this
 ·intro k j ok oj hkj hk hj
  have h3:=List.all_eq_true.1 h2 _ (hmem j oj hj)
  have hin:(ok,k)∈ops.toList.zipIdx.take j:=by
   have hz:ops.toList.zipIdx[k]?=some (ok,k):=by
    rw[List.getElem?_zipIdx];simp[hk]
   have:(ops.toList.zipIdx.take j)[k]?=some (ok,k):=by rw[List.getElem?_take_of_lt hkj];exact hz
   exact List.mem_of_getElem? this
  have:=List.all_eq_true.1 h3 _ hin
  simpa using this
theorem zadt (hlex:zaqg ops fp=true) {Q:RSt→Prop}:∀ (m k:Nat) (listed:Array Bool) (st st':RSt) (ob:List Prop),k+m=ops.size→listed.size=ops.size →
  (∀ j,j < ops.size→listed.getD j true=decide (j < k))→zxa Y ops gs ids (fun i=>some (fp i)) (List.range' k m) st=some (ob,st')→z15 ob→Q st'→zahp Y ops gs ids fp Q m listed st
 | 0,k,listed,st,st',ob,hk,hsz,hl,hr,_,hQ=>by
  simp only[List.range'_zero,zxa,yy1,Prod.mk.injEq] at hr
  obtain ⟨_,rfl⟩:=hr
  refine ⟨?_,hQ⟩
  cases hrd:Region.ready .any ops listed with
  | nil=>rfl
  | cons j l =>
   have hj:j∈Region.ready .any ops listed:=by rw[hrd];simp
   obtain ⟨h0,o,ho,_⟩:=mem_ready.1 hj
   have hlt:j < ops.size:=(Array.getElem?_eq_some_iff.1 ho).1
   rw[hl j hlt] at h0
   simp at h0;omega
 | m+1,k,listed,st,st',ob,hk,hsz,hl,hr,hob,hQ=>by
  obtain ⟨hedge,hpair⟩:=zans hlex
  rw[List.range'_succ] at hr
  simp only[zxa] at hr
  split at hr
  ·rename_i ob1 s1 h1
   split at hr
   ·rename_i ob2 s2 h2
    simp only[yy1,Prod.mk.injEq] at hr
    obtain ⟨rfl,rfl⟩:=hr
    obtain ⟨o1,o2⟩:=z3e hob
    have hklt:k < ops.size:=by omega
    have hok:ops[k]?=some ops[k]:=Array.getElem?_eq_getElem hklt
    have hfalse:∀ j,j < ops.size→listed.getD j false=decide (j < k):=by
     intro j hj
     rw[← hl j hj]
     have:j < listed.size:=by omega
     simp[this]
    have hcl:Closed ops listed:=by
     intro j o ho hlj e he hb
     have hj:j < ops.size:=(Array.getElem?_eq_some_iff.1 ho).1
     have he':=hedge j o ho e he hb
     rw[hfalse j hj] at hlj
     rw[hfalse e.on (by omega)]
     simp at hlj ⊢;omega
    have hready:k∈Region.ready .any ops listed:=mem_ready.2 ⟨by rw[hl k hklt];simp,ops[k],hok,fun e he hb=>by
     have he':=hedge k _ hok e he hb
     rw[hfalse e.on (by omega)];simp;omega⟩
    refine zahq hok o1 m listed st s1 hcl hready (fun j oj hj hjk hlj=>?_) h1 ?_
    ·have hjlt:j < ops.size:=(Array.getElem?_eq_some_iff.1 hj).1
     rw[hl j hjlt] at hlj
     exact hpair k j _ oj (by simp at hlj;omega) hok hj
    ·refine zadt hlex m (k+1) _ s1 s2 ob2 (by omega) (by simpa using hsz) (fun j hj=>?_) h2 o2 hQ
     by_cases hkj:k=j
     ·subst hkj
      have:k < listed.size:=by omega
      simp[this]
     ·rw[Go.getD_set_ne true hkj,hl j hj]
      simp;omega
   ·cases hr
  ·cases hr
theorem zaj4 (hY:Y.Ok) (hm:Y.P.follows .mixedOrders=true) (hlex:zaqg ops fp=true) {G:Gl} {st st':RSt} {nu:Nat→Option Value} {a:Act} {w:World} {ob:List Prop} {id:Nat} {Q:Exit→Act→World→Prop}
  (h:RInv G gs st nu a w) (hr:zxa Y ops gs ids (fun i=>some (fp i)) (List.range ops.size) st=some (ob,st')) (hob:z15 ob) (hQ:∀ nu' a' w',RInv G gs st' nu' a' w'→Q .normal a' w') :
  (Code.region id ops true).wp Y.P Q a w:=by
 refine wp_region_any hm ?_
 have hd:RInv G gs st nu a w.drew:=by
  obtain ⟨h1,h2⟩:=h.mem.of_same (w':=w.drew) rfl rfl rfl rfl
  exact ⟨h2,h.size,h.defers,fun d hd=>(h.slots d hd).mono h1 (fun _ _ h=>h)⟩
 rw[List.range_eq_range'] at hr
 exact z7z hY (Qs:=fun s=>s=st') (fun s nu a w hs hi=>hQ nu a w (hs ▸ hi)) ops.size (Array.replicate ops.size false) st nu a w.drew hd
  (zadt hlex ops.size 0 _ st st' ob (by simp) (by simp) (fun j hj=>by simp[hj]) hr hob rfl)
end
