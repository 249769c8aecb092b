/-
  The walk over abstract states.
-/
import Derived.Test.YtobfadhgiaphnaaGreatXAbRd
namespace Go.Proofs.YtobfadhgiaphnaaGreat.Ab
open Go Go.RowKit
set_option linter.unusedSimpArgs false
set_option linter.unusedVariables false
theorem zbd0 {G:Gl} {blks blks':List Blk} {nu nu':Nat→Option Value} {w w':World}
  (hnu:∀ j v,nu j=some v→nu' j=some v)
  (hblk:∀ b,b < w.heap.size→¬ (G.L0 b∨z4s blks nu b)→w'.heap[b]?=w.heap[b]?)
  (hL:∀ b,b < w.heap.size→z4s blks' nu' b→G.L0 b∨z4s blks nu b):(cx G blks nu w).Le (cx G blks' nu' w') where
 cell a v hl hc:=by
  have hb:=World.block_lt_of_cell? w a hc
  have:=World.cell?_of_block (w:=w) (w':=w') (hblk a.block hb hl)
  exact this.trans hc
 L a v hl hc:=by
  have hb:=World.block_lt_of_cell? w a hc
  rintro (h | h)
  ·exact hl (.inl h)
  ·exact hl (hL _ hb h)
 nu:=hnu
theorem MInv.step {G:Gl} {blks blks':List Blk} {nu nu':Nat→Option Value} {w w':World} (h:MInv G blks nu w) (ch:Nat→Prop)
  (hnu:∀ j v,nu j=some v→nu' j=some v)
  (hw:∀ b,b < w.heap.size→(∀ j v,ch j→(blks.getD j .dead).live=true→nu j=some v→zfq v≠some b)→w'.heap[b]?=w.heap[b]?)
  (hsz:w.heap.size≤w'.heap.size) (hos:w'.os=w.os) (htape:w'.tape=w.tape) (hout:w'.output=w.output)
  (hkeep:∀ j,¬ ch j→blks'.getD j .dead=blks.getD j .dead)
  (hkeepnu:∀ j,¬ ch j→nu' j=nu j)
  (hnew:(cx G blks nu w).Le (cx G blks' nu' w')→∀ j,ch j→BlkOk (cx G blks' nu' w') 0 j (blks'.getD j .dead))
  (hlive:∀ j v b,ch j→(blks'.getD j .dead).live=true→nu' j=some v→zfq v=some b →
   b < w'.heap.size∧(w.heap.size≤b∨∃ i u,ch i∧(blks.getD i .dead).live=true∧nu i=some u∧zfq u=some b))
  (hapart:∀ j j' v v' b,j≠j'→ch j→ch j'→(blks'.getD j .dead).live=true→(blks'.getD j' .dead).live=true→nu' j=some v→nu' j'=some v' →
   zfq v=some b→zfq v'≠some b) :
  (cx G blks nu w).Le (cx G blks' nu' w')∧MInv G blks' nu' w':=by
 have hle:(cx G blks nu w).Le (cx G blks' nu' w'):=by
  refine zbd0 hnu (fun b hb hn=>hw b hb fun j v hj hl hv he=>hn (.inr ⟨j,v,hl,hv,he⟩)) (fun b hb hl=>?_)
  obtain ⟨j,v,h1,h2,h3⟩:=hl
  by_cases hj:ch j
  ·rcases (hlive j v b hj h1 h2 h3).2 with h4 | ⟨i,u,h4,h5,h6,h7⟩
   ·omega
   ·exact .inr ⟨i,u,h5,h6,h7⟩
  ·rw[hkeep j hj] at h1;rw[hkeepnu j hj] at h2
   exact .inr ⟨j,v,h1,h2,h3⟩
 refine ⟨hle,⟨fun j=>?_,?_,?_,hos.trans h.os,htape.trans h.tape,hout.trans h.output,Nat.le_trans h.size hsz,fun b hb hA=>?_,fun k v hk=>hnu k v (h.fix k v hk)⟩⟩
 ·by_cases hj:ch j
  ·exact hnew hle j hj
  ·rw[hkeep j hj]
   refine (h.ok j).mono hle (fun hl v b hv hb=>hw b (h.low j v b hl hv hb).1 fun i u hi hli hu he=>?_) ?_
   ·exact h.apart j i v u b (fun e=>hj (e ▸ hi)) hl hli hv hu hb he
   ·exact hkeepnu j hj
 ·intro j j' v v' b hne hl hl' hv hv' hb
  by_cases hj:ch j<;>by_cases hj':ch j'
  ·exact hapart j j' v v' b hne hj hj' hl hl' hv hv' hb
  ·rw[hkeep j' hj'] at hl';rw[hkeepnu j' hj'] at hv'
   intro he
   rcases (hlive j v b hj hl hv hb).2 with h4 | ⟨i,u,h4,h5,h6,h7⟩
   ·have:=(h.low j' v' b hl' hv' he).1;omega
   ·exact h.apart i j' u v' b (fun e=>hj' (e ▸ h4)) h5 hl' h6 hv' h7 he
  ·rw[hkeep j hj] at hl;rw[hkeepnu j hj] at hv
   intro he
   rcases (hlive j' v' b hj' hl' hv' he).2 with h4 | ⟨i,u,h4,h5,h6,h7⟩
   ·have:=(h.low j v b hl hv hb).1;omega
   ·exact h.apart j i v u b (fun e=>hj (e ▸ h4)) hl h5 hv h6 hb h7
  ·rw[hkeep j hj] at hl;rw[hkeepnu j hj] at hv;rw[hkeep j' hj'] at hl';rw[hkeepnu j' hj'] at hv'
   exact h.apart j j' v v' b hne hl hl' hv hv' hb
 ·intro j v b hl hv hb
  by_cases hj:ch j
  ·obtain ⟨h1,h2⟩:=hlive j v b hj hl hv hb
   refine ⟨h1,?_⟩
   rcases h2 with h4 | ⟨i,u,h4,h5,h6,h7⟩
   ·exact .inl (Nat.le_trans h.size h4)
   ·exact (h.low i u b h5 h6 h7).2
  ·rw[hkeep j hj] at hl;rw[hkeepnu j hj] at hv
   have:=h.low j v b hl hv hb
   exact ⟨by omega,this.2⟩
 ·have hb':b < w.heap.size:=Nat.lt_of_lt_of_le hb h.size
  rw[← h.block b hb hA]
  refine hw b hb' fun j v hj hl hv he=>?_
  rcases (h.low j v b hl hv he).2 with h1 | h1
  ·omega
  ·exact hA h1
theorem z9 {α:Type} {l:List α} {j:Nat} {x d:α} (h:j < l.length):(l.set j x).getD j d=x:=by
 rw[yy0,List.getElem?_set_self h];rfl
theorem getD_set_ne {α:Type} {l:List α} {i j:Nat} {x d:α} (h:i≠j):(l.set i x).getD j d=l.getD j d:=by
 rw[yy0,List.getElem?_set_ne h,← yy0]
theorem zadz (w:World) (o:Obj):(w.alloc o).heap.size=w.heap.size+1:=Array.size_push _
theorem MInv.of_same {G:Gl} {blks:List Blk} {nu:Nat→Option Value} {w w':World} (h:MInv G blks nu w) (hh:w'.heap=w.heap) (hos:w'.os=w.os) (ht:w'.tape=w.tape) (ho:w'.output=w.output) :
  (cx G blks nu w).Le (cx G blks nu w')∧MInv G blks nu w' :=
 h.step (fun _=>False) (fun _ _ h=>h) (fun b _ _=>by rw[hh]) (by rw[hh];exact Nat.le_refl _) hos ht ho (fun _ _=>rfl) (fun _ _=>rfl) (fun _ _ h=>h.elim)
  (fun _ _ _ h=>h.elim) (fun _ _ _ _ _ _ h=>h.elim)
theorem MInv.alloc {G:Gl} {blks:List Blk} {nu:Nat→Option Value} {w:World} (h:MInv G blks nu w) {j:Nat} {T:TypeId} {cs:List AV} {vs:List Value}
  (hf:blks.getD j .dead=.free) (hr:Rds (cx G blks nu w) cs vs) :
  ∃ nu',(cx G blks nu w).Le (cx G (blks.set j (.cells T cs)) nu' (w.alloc (.cells vs.toArray T)))∧MInv G (blks.set j (.cells T cs)) nu' (w.alloc (.cells vs.toArray T)) ∧
   nu' j=some (.pointer (some ⟨w.heap.size,0,none⟩)):=by
 have hd:nu j=none:=by have:=h.ok j;rw[hf] at this;exact this
 have hj:j < blks.length:=by
  rcases Nat.lt_or_ge j blks.length with h1 | h1
  ·exact h1
  ·rw[yy0,List.getElem?_eq_none h1] at hf;cases hf
 refine ⟨fun i=>if i=j then some (.pointer (some ⟨w.heap.size,0,none⟩)) else nu i,?_⟩
 have:=h.step (w':=w.alloc (.cells vs.toArray T)) (blks':=blks.set j (.cells T cs)) (nu':=fun i=>if i=j then some (.pointer (some ⟨w.heap.size,0,none⟩)) else nu i) (fun i=>i=j)
  (fun i v hi=>by
   by_cases e:i=j
   ·rw[e,hd] at hi;cases hi
   ·simp only[e,if_false];exact hi)
  (fun b hb _=>Below.heap_alloc w _ b hb) (by rw[zadz];omega) rfl rfl rfl
  (fun i hi=>getD_set_ne (fun e=>hi e.symm)) (fun i hi=>by simp[hi])
  (fun hle i hi=>by
   subst hi
   rw[z9 hj]
   exact ⟨w.heap.size,vs,by simp[cx],heap_alloc_new w _,hr.mono hle⟩)
  (fun i v b hi _ hv hb=>by
   simp only[hi,if_true,yy1] at hv
   subst hv
   simp only[zfq,yy1] at hb
   subst hb
   exact ⟨by rw[zadz];omega,.inl (Nat.le_refl _)⟩)
  (fun i i' v v' b hne hi hi'=>(hne (hi.trans hi'.symm)).elim)
 exact ⟨this.1,this.2,by simp⟩
theorem MInv.write {G:Gl} {blks:List Blk} {nu:Nat→Option Value} {w w':World} (h:MInv G blks nu w) {j b:Nat} {T:TypeId} {cs:List AV} {cs':List AV} {vs':List Value}
  (hf:blks.getD j .dead=.cells T cs) (hb:nu j=some (.pointer (some ⟨b,0,none⟩))) (hr:Rds (cx G blks nu w) cs' vs')
  (hw:∀ k,k≠b→w'.heap[k]?=w.heap[k]?) (hwb:w'.heap[b]?=some (.cells vs'.toArray T (0,0))) (hsz:w'.heap.size=w.heap.size)
  (hos:w'.os=w.os) (htape:w'.tape=w.tape) (hout:w'.output=w.output) :
  (cx G blks nu w).Le (cx G (blks.set j (.cells T cs')) nu w')∧MInv G (blks.set j (.cells T cs')) nu w':=by
 have hj:j < blks.length:=by
  rcases Nat.lt_or_ge j blks.length with h1 | h1
  ·exact h1
  ·rw[yy0,List.getElem?_eq_none h1] at hf;cases hf
 have hl:(blks.getD j .dead).live=true:=by rw[hf];rfl
 refine h.step (fun i=>i=j) (fun _ _ h=>h) (fun k hk hn=>hw k fun e=>?_) (by omega) hos htape hout (fun i hi=>getD_set_ne (fun e=>hi e.symm)) (fun _ _=>rfl)
  (fun hle i hi=>?_) (fun i v k hi _ hv hk=>?_) (fun i i' v v' b hne hi hi'=>(hne (hi.trans hi'.symm)).elim)
 ·exact hn j _ rfl hl hb (by simp[zfq,e])
 ·subst hi
  rw[z9 hj]
  exact ⟨b,vs',hb,hwb,hr.mono hle⟩
 ·have:=h.low j v k hl (hi ▸ hv) hk
  exact ⟨by omega,.inr ⟨j,v,rfl,hl,hi ▸ hv,hk⟩⟩
