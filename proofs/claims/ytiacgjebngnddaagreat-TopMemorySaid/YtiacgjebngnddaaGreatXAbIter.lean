/-
  The walk over abstract states.
-/
import Derived.Test.YtiacgjebngnddaaGreatXAbC
import Derived.Test.YtiacgjebngnddaaGreatXAbClear
import Derived.Maps.RangeRun
namespace Go.Proofs.YtiacgjebngnddaaGreat.Ab
open Go Go.RowKit
open Go.ChangeMaps (setBlock)
set_option linter.unusedVariables false
set_option linter.unusedSimpArgs false
structure Anc (G G':Gl):Prop where
 L0:G'.L0=G.L0
 size:G.w0.heap.size≤G'.w0.heap.size
 os:G'.w0.os=G.w0.os
 tape:G'.w0.tape=G.w0.tape
 output:G'.w0.output=G.w0.output
 block:∀ b,b < G.w0.heap.size→¬ G.A b→G'.w0.heap[b]?=G.w0.heap[b]?
 A:∀ b,G'.A b→G.w0.heap.size≤b∨G.A b
 fix:∀ k v,G.fix k=some v→G'.fix k=some v
theorem Anc.refl (G:Gl):Anc G G:=⟨rfl,Nat.le_refl _,rfl,rfl,rfl,fun _ _ _=>rfl,fun _ h=>.inr h,fun _ _ h=>h⟩
theorem Anc.cx {G G':Gl} (h:Anc G G') (blks:List Blk) (nu:Nat→Option Value) (w:World):cx G' blks nu w=cx G blks nu w:=by
 unfold Ab.cx;rw[h.L0]
theorem MInv.now {G0 G:Gl} {blks:List Blk} {nu:Nat→Option Value} {w w':World} (h:MInv G blks nu w) (ha:Anc G0 G) (hsz:w.heap.size≤w'.heap.size) (hos:w'.os=w.os) (htape:w'.tape=w.tape) (hout:w'.output=w.output)
  (hw:∀ b,b < w.heap.size→w'.heap[b]?=w.heap[b]?∨(¬ zpm blks nu b∧(∀ a:Addr,a.block=b→w.cell? a=none)∧(G0.w0.heap.size≤b∨G0.A b)))
  (fx:Nat→Option Value) (hf1:∀ k v,fx k=some v→nu k=some v) (hf2:∀ k v,G.fix k=some v→fx k=some v) :
  ∃ G',Anc G0 G'∧G'.fix=fx∧G'.w0=w'∧G'.A=zpm blks nu∧MInv G' blks nu w'∧(Ab.cx G blks nu w).Le (Ab.cx G' blks nu w'):=by
 have hlow:∀ b,zpm blks nu b→b < w.heap.size∧(G.w0.heap.size≤b∨G.A b):=fun b ⟨j,v,h1,h2,h3⟩=>h.low j v b h1 h2 h3
 refine ⟨⟨w',G.L0,zpm blks nu,fun b hb=>by have h1:=G.lt b hb;have h2:=h.size;omega,fun b hb h0=>?_,fx⟩,⟨ha.L0,?_,?_,?_,?_,fun b hb hA=>?_,fun b hb=>?_,fun k v hk=>hf2 k v (ha.fix k v hk)⟩,rfl,rfl,rfl,?_⟩
 ·rcases (hlow b hb).2 with h1 | h1
  ·have:=G.lt b h0;omega
  ·exact G.dis b h1 h0
 ·exact Nat.le_trans ha.size (Nat.le_trans h.size hsz)
 ·exact hos.trans (h.os.trans ha.os)
 ·exact htape.trans (h.tape.trans ha.tape)
 ·exact hout.trans (h.output.trans ha.output)
 ·have h1:b < G.w0.heap.size:=Nat.lt_of_lt_of_le hb ha.size
  have hnA:¬ G.A b:=fun hx=>by
   rcases ha.A b hx with h2 | h2
   ·omega
   ·exact hA h2
  show w'.heap[b]?=_
  rcases hw b (Nat.lt_of_lt_of_le h1 h.size) with h2 | ⟨_,_,h2⟩
  ·rw[h2,h.block b h1 hnA,ha.block b hb hA]
  ·rcases h2 with h2 | h2
   ·omega
   ·exact absurd h2 hA
 ·rcases (hlow b hb).2 with h1 | h1
  ·exact .inl (Nat.le_trans ha.size h1)
  ·exact ha.A b h1
 ·have hle:(Ab.cx G blks nu w).Le (Ab.cx ⟨w',G.L0,zpm blks nu,fun b hb=>by have h1:=G.lt b hb;have h2:=h.size;omega,fun b hb h0=>by
    rcases (hlow b hb).2 with h1 | h1
    ·have:=G.lt b h0;omega
    ·exact G.dis b h1 h0,fx⟩ blks nu w'):=by
   refine ⟨fun a v hl hc=>?_,fun a v hl hc=>hl,fun _ _ h=>h⟩
   rcases hw a.block (World.block_lt_of_cell? w a hc) with h1 | ⟨_,h1,_⟩
   ·exact (World.cell?_of_block (w:=w) (w':=w') h1).trans hc
   ·have:=(h1 a rfl).symm.trans hc
    cases this
  refine ⟨⟨fun j=>(h.ok j).mono hle (fun hl v b hv hb=>?_) rfl,h.apart,fun j v b hl hv hb=>⟨Nat.lt_of_lt_of_le (h.low j v b hl hv hb).1 hsz,.inr ⟨j,v,hl,hv,hb⟩⟩,rfl,rfl,rfl,Nat.le_refl _,fun _ _ _=>rfl,hf1⟩,hle⟩
  rcases hw b (h.low j v b hl hv hb).1 with h1 | ⟨h1,_⟩
  ·exact h1
  ·exact absurd ⟨j,v,hl,hv,hb⟩ h1
theorem MInv.back {G0 G:Gl} {blks:List Blk} {nu:Nat→Option Value} {w:World} (h:MInv G blks nu w) (ha:Anc G0 G):MInv G0 blks nu w:=by
 have hc:=ha.cx blks nu w
 refine ⟨fun j=>by rw[← hc];exact h.ok j,h.apart,fun j v b hl hv hb=>?_,h.os.trans ha.os,h.tape.trans ha.tape,h.output.trans ha.output,Nat.le_trans ha.size h.size,fun b hb hA=>?_,fun k v hk=>h.fix k v (ha.fix k v hk)⟩
 ·obtain ⟨h1,h2⟩:=h.low j v b hl hv hb
  refine ⟨h1,?_⟩
  rcases h2 with h2 | h2
  ·exact .inl (Nat.le_trans ha.size h2)
  ·exact ha.A b h2
 ·rw[h.block b (Nat.lt_of_lt_of_le hb ha.size) (fun hx=>?_),ha.block b hb hA]
  rcases ha.A b hx with h2 | h2
  ·omega
  ·exact hA h2
theorem NInv.back {G0 G:Gl} {st:St} {nu:Nat→Option Value} {a:Act} {w:World} (h:NInv G st nu a w) (ha:Anc G0 G):NInv G0 st nu a w:=by
 have hc:=ha.cx st.blks nu w
 exact ⟨h.mem.back ha,h.size,h.defers,fun d hd=>by rw[← hc];exact h.slots d hd⟩
theorem NInv.val {G:Gl} {st:St} {nu:Nat→Option Value} {a:Act} {w:World} (h:NInv G st nu a w) {d:Nat} {v:Value} (hd:st.slot d=.val v):a.tmps.getD d undef=v:=by
 by_cases q:d < st.n
 ·have:=h.slots d q
  rw[hd] at this
  generalize a.tmps.getD d undef=u at this
  cases this;rfl
 ·unfold St.slot at hd;rw[if_neg q] at hd;cases hd
