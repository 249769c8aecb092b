/-
  The walk over abstract states.
-/
import Derived.Test.YtiacgjebngnddaaGreatXAbC
import Derived.Test.YtiacgjebngnddaaGreatXAbClear
import Derived.Maps.RangeRun
namespace Go.Proofs.YtiacgjebngnddaaGreat.Ab
open Go Go.RowKit
open Go.ChangeMaps (setBlock)
set_option linter.unusedVariables false
set_option linter.unusedSimpArgs false
def LQ.anyv:LQ Value where
 P l:=match l with
  | .val v::r=>some (v,r)
  | _=>none
 e v:=[.val v]
 ok l a r h:=by
  split at h
  ·simp only[yy1,Prod.mk.injEq] at h
   obtain ⟨rfl,rfl⟩:=h
   exact ⟨[.val _],rfl,.cons .refl .nil⟩
  ·cases h
def EndD.also {α β:Type} (q:LQ α) (d:Nat) (a:EndD β):EndD (α×β):=⟨q.seq a.q,⟨d::a.p.ds,a.p.fx⟩,a.s⟩
def opN (c:Code) (i:Nat):Oper:=match (z9p c)[i]? with
 | some o=>o
 | none=>default
def z9q:Code→Code
 | .seq _ y=>z9q y
 | c=>c
def zqo:Code→Code
 | .seq x y=>.seq x (zqo y)
 | _=>.skip
section tail
variable {Y:EnvT} {A:Ann} {G:Gl}
theorem zadk {A:Ann} (h:(A.cut.all fun p=>p.1.any fun q => !Nat.beq q 1)=true) (n:Nat):atP A.cut (List.replicate n 1)=none:=by
 have key:∀ (l:List (List Nat×(St→Option LR))),(l.all fun p=>p.1.any fun q => !Nat.beq q 1)=true→atP l (List.replicate n 1)=none:=by
  intro l
  induction l with
  | nil=>intro _;rfl
  | cons p l ih =>
   intro h
   simp only[List.all_cons,yy7] at h
   have hne:eqP p.1 (List.replicate n 1)=false:=by
    cases he:eqP p.1 (List.replicate n 1) with
    | false=>rfl
    | true =>
     have:=zagc he
     rw[this] at h
     obtain ⟨q,h1,h2⟩:=List.any_eq_true.1 h.1
     rw[(List.mem_replicate.1 h1).2] at h2
     cases h2
   simp only[atP,hne]
   exact ih h.2
 exact key _ h
theorem zadl (hY:Y.Ok) (hm:Y.P.follows .mixedOrders=true) {root:Code} {Lc:Nat} (hG:z2o G Lc) (hA:zue Y.env Lc root A.cut) (hs:(A.cut.all fun p=>p.1.any fun q => !Nat.beq q 1)=true) {α:Type} {Q:α→Prop}
  {k:Exit→St→Tr α} {K:Exit→Act→World→Prop} {cl:Code} (hk:∀ e s a w,e≠.normal→(k e s).all Q→Inv G s a w→K e a w) (hl:∀ s a w,(k .normal s).all Q→Inv G s a w→cl.wp Y.P K a w) :
  ∀ (c:Code) (n:Nat),z9q c=cl→sub root (List.replicate n 1)=zqo c→∀ (st:St) (a:Act) (w:World),Inv G st a w→(z3n Y A (zqo c) (List.replicate n 1) st k).all Q→c.wp Y.P K a w:=by
 intro c
 induction c with
 | seq x y _ ih =>
  intro n h1 h2 st a w hi h
  simp only[zqo,z3n,zadk hs] at h
  refine wp_seq (wp_mono (zgm hY hm hG hA x (0::List.replicate n 1) (by rw[sub,h2];rfl) st _ h a w hi) fun e a' w' hq=>?_)
  obtain ⟨s,k1,k2⟩:=hq
  cases e with
  | normal=>exact ih (n+1) h1 (by rw[List.replicate_succ,sub,h2];rfl) s a' w' k2 k1
  | _=>exact hk _ s a' w' (by simp) k1 k2
 | _ =>
  intro n h1 h2 st a w hi h
  have h1:cl=_:=h1.symm
  subst h1
  simp only[zqo,z3n] at h
  exact hl st a w h hi
end tail
structure Anc (G G':Gl):Prop where
 L0:G'.L0=G.L0
 size:G.w0.heap.size≤G'.w0.heap.size
 os:G'.w0.os=G.w0.os
 tape:G'.w0.tape=G.w0.tape
 output:G'.w0.output=G.w0.output
 block:∀ b,b < G.w0.heap.size→¬ G.A b→G'.w0.heap[b]?=G.w0.heap[b]?
 A:∀ b,G'.A b→G.w0.heap.size≤b∨G.A b
 fix:∀ k v,G.fix k=some v→G'.fix k=some v
theorem Anc.refl (G:Gl):Anc G G:=⟨rfl,Nat.le_refl _,rfl,rfl,rfl,fun _ _ _=>rfl,fun _ h=>.inr h,fun _ _ h=>h⟩
theorem Anc.cx {G G':Gl} (h:Anc G G') (blks:List Blk) (nu:Nat→Option Value) (w:World):cx G' blks nu w=cx G blks nu w:=by
 unfold Ab.cx;rw[h.L0]
theorem MInv.now {G0 G:Gl} {blks:List Blk} {nu:Nat→Option Value} {w w':World} (h:MInv G blks nu w) (ha:Anc G0 G) (hsz:w.heap.size≤w'.heap.size) (hos:w'.os=w.os) (htape:w'.tape=w.tape) (hout:w'.output=w.output)
  (hw:∀ b,b < w.heap.size→w'.heap[b]?=w.heap[b]?∨(¬ zkv blks nu b∧(∀ a:Addr,a.block=b→w.cell? a=none)∧(G0.w0.heap.size≤b∨G0.A b)))
  (fx:Nat→Option Value) (hf1:∀ k v,fx k=some v→nu k=some v) (hf2:∀ k v,G.fix k=some v→fx k=some v) :
  ∃ G',Anc G0 G'∧G'.fix=fx∧G'.w0=w'∧G'.A=zkv blks nu∧MInv G' blks nu w'∧(Ab.cx G blks nu w).Le (Ab.cx G' blks nu w'):=by
 have hlow:∀ b,zkv blks nu b→b < w.heap.size∧(G.w0.heap.size≤b∨G.A b):=fun b ⟨j,v,h1,h2,h3⟩=>h.low j v b h1 h2 h3
 refine ⟨⟨w',G.L0,zkv blks nu,fun b hb=>by have h1:=G.lt b hb;have h2:=h.size;omega,fun b hb h0=>?_,fx⟩,⟨ha.L0,?_,?_,?_,?_,fun b hb hA=>?_,fun b hb=>?_,fun k v hk=>hf2 k v (ha.fix k v hk)⟩,rfl,rfl,rfl,?_⟩
 ·rcases (hlow b hb).2 with h1 | h1
  ·have:=G.lt b h0;omega
  ·exact G.dis b h1 h0
 ·exact Nat.le_trans ha.size (Nat.le_trans h.size hsz)
 ·exact hos.trans (h.os.trans ha.os)
 ·exact htape.trans (h.tape.trans ha.tape)
 ·exact hout.trans (h.output.trans ha.output)
 ·have h1:b < G.w0.heap.size:=Nat.lt_of_lt_of_le hb ha.size
  have hnA:¬ G.A b:=fun hx=>by
   rcases ha.A b hx with h2 | h2
   ·omega
   ·exact hA h2
  show w'.heap[b]?=_
  rcases hw b (Nat.lt_of_lt_of_le h1 h.size) with h2 | ⟨_,_,h2⟩
  ·rw[h2,h.block b h1 hnA,ha.block b hb hA]
  ·rcases h2 with h2 | h2
   ·omega
   ·exact absurd h2 hA
 ·rcases (hlow b hb).2 with h1 | h1
  ·exact .inl (Nat.le_trans ha.size h1)
  ·exact ha.A b h1
 ·have hle:(Ab.cx G blks nu w).Le (Ab.cx ⟨w',G.L0,zkv blks nu,fun b hb=>by have h1:=G.lt b hb;have h2:=h.size;omega,fun b hb h0=>by
    rcases (hlow b hb).2 with h1 | h1
    ·have:=G.lt b h0;omega
    ·exact G.dis b h1 h0,fx⟩ blks nu w'):=by
   refine ⟨fun a v hl hc=>?_,fun a v hl hc=>hl,fun _ _ h=>h⟩
   rcases hw a.block (World.block_lt_of_cell? w a hc) with h1 | ⟨_,h1,_⟩
   ·exact (World.cell?_of_block (w:=w) (w':=w') h1).trans hc
   ·have:=(h1 a rfl).symm.trans hc
    cases this
  refine ⟨⟨fun j=>(h.ok j).mono hle (fun hl v b hv hb=>?_) rfl,h.apart,fun j v b hl hv hb=>⟨Nat.lt_of_lt_of_le (h.low j v b hl hv hb).1 hsz,.inr ⟨j,v,hl,hv,hb⟩⟩,rfl,rfl,rfl,Nat.le_refl _,fun _ _ _=>rfl,hf1⟩,hle⟩
  rcases hw b (h.low j v b hl hv hb).1 with h1 | ⟨h1,_⟩
  ·exact h1
  ·exact absurd ⟨j,v,hl,hv,hb⟩ h1
theorem MInv.back {G0 G:Gl} {blks:List Blk} {nu:Nat→Option Value} {w:World} (h:MInv G blks nu w) (ha:Anc G0 G):MInv G0 blks nu w:=by
 have hc:=ha.cx blks nu w
 refine ⟨fun j=>by rw[← hc];exact h.ok j,h.apart,fun j v b hl hv hb=>?_,h.os.trans ha.os,h.tape.trans ha.tape,h.output.trans ha.output,Nat.le_trans ha.size h.size,fun b hb hA=>?_,fun k v hk=>h.fix k v (ha.fix k v hk)⟩
 ·obtain ⟨h1,h2⟩:=h.low j v b hl hv hb
  refine ⟨h1,?_⟩
  rcases h2 with h2 | h2
  ·exact .inl (Nat.le_trans ha.size h2)
  ·exact ha.A b h2
 ·rw[h.block b (Nat.lt_of_lt_of_le hb ha.size) (fun hx=>?_),ha.block b hb hA]
  rcases ha.A b hx with h2 | h2
  ·omega
  ·exact hA h2
theorem NInv.back {G0 G:Gl} {st:St} {nu:Nat→Option Value} {a:Act} {w:World} (h:NInv G st nu a w) (ha:Anc G0 G):NInv G0 st nu a w:=by
 have hc:=ha.cx st.blks nu w
 exact ⟨h.mem.back ha,h.size,h.defers,fun d hd=>by rw[← hc];exact h.slots d hd⟩
theorem NInv.putMap {G:Gl} {n:Nat} {sl:List (Nat×AV)} {blks:List Blk} {nu:Nat→Option Value} {a:Act} {w:World} (h:NInv G ⟨n,sl,blks⟩ nu a w) {jm bm clk:Nat} {es:Array MapEntry} {m:Mp} (hl:jm < blks.length)
  (hd:blks.getD jm .dead=.dead) (hn:nu jm=some (.map (some bm))) (hb:w.heap[bm]?=some (.map es clk)) (hr:MapRd (cx G blks nu w) m es clk) (hv:¬ zkv blks nu bm) (ho:G.w0.heap.size≤bm∨G.A bm) :
  NInv G ⟨n,sl,blks.set jm (.maps m)⟩ nu a w:=by
 have hself:(blks.set jm (.maps m)).getD jm .dead=.maps m:=zr hl
 have hoth:∀ i,i≠jm→(blks.set jm (.maps m)).getD i .dead=blks.getD i .dead:=fun i hij=>getD_set_ne (fun e=>hij e.symm)
 have hcell:∀ x v,¬ (cx G blks nu w).L x.block→w.cell? x=some v→¬ (cx G (blks.set jm (.maps m)) nu w).L x.block:=by
  rintro x v h1 h2 (h3 | ⟨i,u,k1,k2,k3⟩)
  ·exact h1 (.inl h3)
  ·by_cases e:i=jm
   ·subst e
    rw[hn] at k2
    cases k2
    simp only[zc1,yy1] at k3
    unfold World.cell? at h2
    rw[← k3,hb] at h2
    cases h2
   ·rw[hoth i e] at k1
    exact h1 (.inr ⟨i,u,k1,k2,k3⟩)
 have hle:(cx G blks nu w).Le (cx G (blks.set jm (.maps m)) nu w):=⟨fun _ _ _ h=>h,hcell,fun _ _ h=>h⟩
 refine ⟨⟨fun j=>?_,fun i i' v v' b hne h1 h2 hv1 hv2 hb1=>?_,fun i v b h1 hv1 hb1=>?_,h.mem.os,h.mem.tape,h.mem.output,h.mem.size,h.mem.block,h.mem.fix⟩,h.size,h.defers,fun d hd'=>(h.slots d hd').mono hle⟩
 ·show BlkOk _ 0 j ((blks.set jm (.maps m)).getD j .dead)
  by_cases e:j=jm
  ·subst e;rw[hself];exact ⟨bm,es,clk,hn,hb,hr.mono hle⟩
  ·rw[hoth j e];exact (h.mem.ok j).mono hle (fun _ _ _ _ _=>rfl) rfl
 ·replace h1:((blks.set jm (.maps m)).getD i .dead).live=true:=h1
  replace h2:((blks.set jm (.maps m)).getD i' .dead).live=true:=h2
  by_cases e:i=jm
  ·have e':i'≠jm:=fun q=>hne (e.trans q.symm)
   rw[hoth i' e'] at h2
   subst e
   rw[hn] at hv1;cases hv1
   simp only[zc1,yy1] at hb1
   subst hb1
   exact fun hx=>hv ⟨i',v',h2,hv2,hx⟩
  ·rw[hoth i e] at h1
   by_cases e':i'=jm
   ·subst e'
    rw[hn] at hv2;cases hv2
    intro hx
    simp only[zc1,yy1] at hx
    subst hx
    exact hv ⟨i,v,h1,hv1,hb1⟩
   ·rw[hoth i' e'] at h2
    exact h.mem.apart i i' v v' b hne h1 h2 hv1 hv2 hb1
 ·replace h1:((blks.set jm (.maps m)).getD i .dead).live=true:=h1
  by_cases e:i=jm
  ·subst e
   rw[hn] at hv1;cases hv1
   simp only[zc1,yy1] at hb1
   subst hb1
   exact ⟨(Array.getElem?_eq_some_iff.1 hb).1,ho⟩
  ·rw[hoth i e] at h1
   exact h.mem.low i v b h1 hv1 hb1
theorem NInv.putAny {G:Gl} {st:St} {nu:Nat→Option Value} {a:Act} {w:World} (h:NInv G st nu a w) {d:Nat} (hd:st.slot d=.any) (v:Value):NInv G st nu (a.put (some d) v) w:=by
 refine ⟨h.mem,by simpa[Act.put] using h.size,h.defers,fun e he=>?_⟩
 by_cases q:e=d
 ·rw[q,hd];exact .any
 ·have:(a.put (some d) v).tmps.getD e undef=a.tmps.getD e undef:=by
   simp[Act.put,Array.getD_eq_getD_getElem?,Array.getElem?_setIfInBounds_ne (Ne.symm q)]
  rw[this];exact h.slots e he
theorem NInv.withS {G:Gl} {n:Nat} {sl:List (Nat×AV)} {blks:List Blk} {nu:Nat→Option Value} {a:Act} {w:World} (h:NInv G ⟨n,sl,blks⟩ nu a w) {d:Nat} {x:AV} (hx:Rd (cx G blks nu w) x (a.tmps.getD d undef)) :
  NInv G ⟨n,(d,x)::sl,blks⟩ nu a w:=by
 refine ⟨h.mem,h.size,h.defers,fun e he=>?_⟩
 have he':e < n:=he
 have h2:=h.slots e he
 unfold St.slot at h2 ⊢
 simp only[he',if_true,lk] at h2 ⊢
 split
 ·rename_i q;subst q;exact hx
 ·exact h2
theorem NInv.lessS {G:Gl} {n:Nat} {sl:List (Nat×AV)} {blks:List Blk} {nu:Nat→Option Value} {a:Act} {w:World} {d:Nat} {x:AV} (h:NInv G ⟨n,(d,x)::sl,blks⟩ nu a w) (hd:lk sl d=.any):NInv G ⟨n,sl,blks⟩ nu a w:=by
 refine ⟨h.mem,h.size,h.defers,fun e he=>?_⟩
 have he':e < n:=he
 have h2:=h.slots e he
 unfold St.slot at h2 ⊢
 simp only[he',if_true,lk] at h2 ⊢
 by_cases q:e=d
 ·rw[q,hd];exact .any
 ·rw[if_neg q] at h2;exact h2
theorem NInv.val {G:Gl} {st:St} {nu:Nat→Option Value} {a:Act} {w:World} (h:NInv G st nu a w) {d:Nat} {v:Value} (hd:st.slot d=.val v):a.tmps.getD d undef=v:=by
 by_cases q:d < st.n
 ·have:=h.slots d q
  rw[hd] at this
  generalize a.tmps.getD d undef=u at this
  cases this;rfl
 ·unfold St.slot at hd;rw[if_neg q] at hd;cases hd
def encW (x:Wait):Value:=.agg #[.int .i64 x.Number,.int .i64 x.D,.int .i64 x.V,.int .i64 x.Amount,.int .i64 x.Height,.int .i64 x.Due,.int .i64 x.h0,.int .i64 x.h1]
theorem rd_wait {C:Cx} {x:Wait} {v:Value}:Rd C (.agg x.cells) v↔v=encW x:=by
 constructor
 ·intro h
  cases h with
  | @agg _ vs hl h =>
   have hr:Rds C x.cells vs:=⟨hl,h⟩
   obtain ⟨v0,vs,rfl,h0,hr⟩:=hr.uncons
   obtain ⟨v1,vs,rfl,h1,hr⟩:=hr.uncons
   obtain ⟨v2,vs,rfl,h2,hr⟩:=hr.uncons
   obtain ⟨v3,vs,rfl,h3,hr⟩:=hr.uncons
   obtain ⟨v4,vs,rfl,h4,hr⟩:=hr.uncons
   obtain ⟨v5,vs,rfl,h5,hr⟩:=hr.uncons
   obtain ⟨v6,vs,rfl,h6,hr⟩:=hr.uncons
   obtain ⟨v7,vs,rfl,h7,hr⟩:=hr.uncons
   have:=hr.unnil
   subst this
   cases h0;cases h1;cases h2;cases h3;cases h4;cases h5;cases h6;cases h7
   rfl
 ·rintro rfl
  have hr:Rds C x.cells [.int .i64 x.Number,.int .i64 x.D,.int .i64 x.V,.int .i64 x.Amount,.int .i64 x.Height,.int .i64 x.Due,.int .i64 x.h0,.int .i64 x.h1] :=
   .cons .val (.cons .val (.cons .val (.cons .val (.cons .val (.cons .val (.cons .val (.cons .val .nil)))))))
  exact .agg hr.1 hr.2
theorem mapRd_waits {C:Cx} {l:List (Int×Wait)} {es:Array MapEntry} {clk:Nat}:MapRd C (.waits l) es clk↔es.toList.map (fun e=>(e.key,e.val))=l.map (fun p=>(Value.int .i64 p.1,encW p.2))∧MapKept.Stamped es clk:=by
 constructor
 ·rintro ⟨h1,h2,h3⟩
  refine ⟨?_,h3⟩
  have hlen:es.size=l.length:=by simpa[Mp.ents] using h1
  apply List.ext_getElem?
  intro i
  rw[List.getElem?_map,List.getElem?_map,Array.getElem?_toList]
  by_cases hi:i < es.size
  ·have e1:es[i]?=some es[i]:=Array.getElem?_eq_getElem hi
   have e2:l[i]?=some (l[i]'(by omega)):=yy3 (by omega)
   obtain ⟨k1,k2⟩:=h2 i _ ((l[i]'(by omega)).1,.agg (l[i]'(by omega)).2.cells) e1 (by simp only[Mp.ents,List.getElem?_map,e2];rfl)
   rw[e1,e2]
   simp only[Option.map_some,k1,rd_wait.1 k2]
  ·rw[Array.getElem?_eq_none (by omega),List.getElem?_eq_none (by omega)];rfl
 ·rintro ⟨h1,h3⟩
  have hlen:es.size=l.length:=by have:=congrArg List.length h1;simpa using this
  refine ⟨by simpa[Mp.ents] using hlen,fun i e p he hp=>?_,h3⟩
  have:=congrArg (·[i]?) h1
  simp only[List.getElem?_map,Array.getElem?_toList,he,Option.map_some] at this
  simp only[Mp.ents,List.getElem?_map] at hp
  cases hl:l[i]? with
  | none=>rw[hl] at hp;cases hp
  | some q =>
   rw[hl] at hp this
   simp only[Option.map_some,yy1,Prod.mk.injEq] at hp this
   subst hp
   exact ⟨this.1,rd_wait.2 this.2⟩
open Classical in
theorem zyn {α:Type} (f:α→Value):∀ (l:List α) (i:Nat) (x:α),(l.map f).Nodup→l[i]?=some x→l.eraseIdx i=l.filter fun y=>decide (f y≠f x)
 | [],i,x,_,h=>by simp at h
 | a::l,0,x,hn,h=>by
  simp only[List.getElem?_cons_zero,yy1] at h
  subst h
  simp only[List.map_cons,List.nodup_cons] at hn
  rw[List.eraseIdx_cons_zero,List.filter_cons_of_neg (by simp)]
  refine (List.filter_eq_self.2 fun y hy=>?_).symm
  simp only[decide_eq_true_eq]
  exact fun e=>hn.1 (e ▸ List.mem_map_of_mem hy)
 | a::l,i+1,x,hn,h=>by
  simp only[List.getElem?_cons_succ] at h
  simp only[List.map_cons,List.nodup_cons] at hn
  have hne:f a≠f x:=fun e=>hn.1 (e ▸ List.mem_map_of_mem (List.mem_of_getElem? h))
  rw[List.eraseIdx_cons_succ,List.filter_cons_of_pos (by simpa using hne),zyn f l i x hn.2 h]
theorem z64 {α:Type} {p q:α→Bool} (hpq:∀ x,q x=true→p x=true) {e:α} (hp:p e=true) (hq:q e=false):∀ {l:List α},e∈l→l.countP q < l.countP p
 | [],h=>by cases h
 | x::l,h=>by
  have hle:l.countP q≤l.countP p:=List.countP_mono_left fun y _=>hpq y
  rw[List.countP_cons,List.countP_cons]
  rcases List.mem_cons.1 h with rfl | h
  ·rw[hp,hq];simp;omega
  ·have:=z64 hpq hp hq h
   cases hx:q x with
   | false=>cases p x<;>simp<;>omega
   | true=>rw[hpq x hx];simp;omega
section
variable {σ β:Type}
open Classical in
noncomputable def mapF (f:Value→Int→Wait→Option ((Int×Value×σ)⊕(Value×σ))) (v:σ) (l:List (Int×Wait)):Option (List (Int×Wait)) :=
 if ∀ p,p∈l→(∀ it,f it p.1 p.2=some (.inl (p.1,it,v)))∨(∀ it,f it p.1 p.2=some (.inr (it,v))) then some (l.filter fun p => !decide (∀ it,f it p.1 p.2=some (.inl (p.1,it,v)))) else none
noncomputable def mapL (n N L jm:Nat) (a:EndD σ) (b:EndD β) (T:Value→σ→Int→Wait→Tr ((Int×Value×σ)⊕(Value×σ))) (g:σ→List (Int×Wait)→β) (st:St):Option LR :=
 match st.blks.getD jm .dead with
 | .maps (.waits l)=>match decP a.q n L a.p a.s ⟨st.n,st.sl,st.blks.set jm .dead⟩ with
  | some v=>some (.one ((mapF (fun it k x=>(T it v k x).run) v l).map (g v)) (fun r=>(.normal,b.at n N r)))
  | none=>none
 | _=>none
def MapJ (G:Gl) (L jm bm r0 since dIt:Nat) (s:St) (l:List (Int×Wait)) (dl:Int×Wait→Bool) (k:Nat) (act:Act) (w:World):Prop :=
 ∃ (G':Gl) (es:Array MapEntry) (clk:Nat) (seen:Array Nat) (c0:Nat) (Z:List Int),
  Anc G G'∧z2o G' L∧G'.fix jm=some (.map (some bm))∧(bm < G'.w0.heap.size∧¬ G'.A bm)∧(r0 < G'.w0.heap.size∧¬ G'.A r0)∧Inv G' s act w∧act.tmps.getD dIt undef=.pointer (some ⟨r0,0,none⟩) ∧
  w.heap[bm]?=some (.map es clk)∧w.heap[r0]?=some (.mapIter (some bm) since seen c0)∧MapKept.Stamped es clk∧(∀ e,e∈es.toList→e.born < since)∧since≤c0∧since≤clk ∧
  es.toList.map (fun e=>(e.key,e.val))=(l.filter fun p => !(dl p&&Z.contains p.1)).map (fun p=>(Value.int .i64 p.1,encW p.2)) ∧
  (∀ e,e∈es.toList→seen.contains e.born=true→∃ n,e.key=.int .i64 n∧n∈Z)∧(es.toList.countP fun e => !seen.contains e.born)=k
end
theorem zob {G:Gl} {blks:List Blk} {nu:Nat→Option Value} {w:World} (h:MInv G blks nu w) {b:Nat} (h1:b < G.w0.heap.size) (h2:¬ G.A b):¬ zkv blks nu b:=by
 rintro ⟨j,v,k1,k2,k3⟩
 rcases (h.low j v b k1 k2 k3).2 with h | h
 ·omega
 ·exact h2 h
theorem zaft {w:World} {b:Nat} {o:Obj} (h:w.heap[b]?=some o) (ho:∀ x y z,o≠.cells x y z) (a:Addr) (ha:a.block=b):w.cell? a=none:=by
 unfold World.cell?
 rw[ha,h]
 cases o<;>first | rfl | exact absurd rfl (ho _ _ _)
theorem zabx {P:Program} {G:Gl} {st:St} {nu:Nat→Option Value} {a:Act} {w:World} (h:NInv G st nu a w) {dc jc jm bm Tc T0:Nat} (hs:st.slot dc=.ptr jc 0) (hb:st.blks.getD jc .dead=.cells Tc [.own jm]) (hn:nu jm=some (.map (some bm)))
  (ht:zh P (isAgg T0)=some false) (hz:zh P (sizeOf T0)=some 1) (o:Oper) (ho:o.op=.load T0 (.tmp dc)):(execOp a.eval o).run P w=.ok (.value (.map (some bm))) w:=by
 have hd:dc < st.n:=by
  rcases Nat.lt_or_ge dc st.n with h1 | h1
  ·exact h1
  ·unfold St.slot at hs;rw[if_neg (by omega)] at hs;cases hs
 have hx:=h.slots dc hd
 rw[hs] at hx
 have hk:=h.mem.ok jc
 rw[hb] at hk
 obtain ⟨b,vs,e1,e2,e3⟩:=hk
 generalize hv:a.tmps.getD dc undef=v at hx
 cases hx with
 | @ptr _ _ b' e4 =>
  have:b=b':=by have:=e1.symm.trans e4;simpa using this
  subst this
  obtain ⟨u,us,rfl,k1,k2⟩:=e3.uncons
  have:=k2.unnil
  subst this
  have hu:u=.map (some bm):=by
   cases k1 with
   | own k3=>exact Option.some.inj (k3.symm.trans hn)
  subst hu
  have hrun:=zb4 (P:=P) (w:=w) ht hz ⟨b,0,none⟩ [.map (some bm)] rfl (fun _=>rfl) (fun i v hi=>by
   rw[z9,cell_of_row w b (0+i) _ Tc (0,0) e2]
   simpa using hi)
  have hve:a.eval (.tmp dc)=.pointer (some ⟨b,0,none⟩):=hv
  simp[execOp,ho,Instr.loadAt,Instr.sureAddr,hve,hrun]
