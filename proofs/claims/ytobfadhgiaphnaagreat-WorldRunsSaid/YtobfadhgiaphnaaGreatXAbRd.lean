/-
  The walk over abstract states.
-/
import Derived.Test.YtobfadhgiaphnaaGreatXAbData
import Derived.ProofKit
namespace Go.Proofs.YtobfadhgiaphnaaGreat.Ab
open Go Go.RowKit
set_option linter.unusedSimpArgs false
set_option linter.unusedVariables false
structure Cx where
 w:World
 L:Nat→Prop
 nu:Nat→Option Value
def inB:List (Nat×Nat×Int)→Prop
 | []=>True
 | p::l=>(0≤p.2.2∧p.2.2 < (p.1:Int))∧inB l
def ixN:List (Nat×Nat×Int)→Nat
 | []=>0
 | p::l=>p.2.2.toNat*p.2.1+ixN l
inductive Rd (C:Cx):AV→Value→Prop where
 | any {v:Value}:Rd C .any v
 | val {v:Value}:Rd C (.val v) v
 | agg {cs:List AV} {vs:List Value} (hl:vs.length=cs.length) (h:∀ i,i < cs.length→Rd C (cs.getD i .any) (vs.getD i undef)):Rd C (.agg cs) (.agg vs.toArray)
 | tup {cs:List AV} {vs:List Value} (hl:vs.length=cs.length) (h:∀ i,i < cs.length→Rd C (cs.getD i .any) (vs.getD i undef)):Rd C (.tup cs) (.tuple vs.toArray)
 | fn {f:FuncId} {cs:List AV} {vs:List Value} (hl:vs.length=cs.length) (h:∀ i,i < cs.length→Rd C (cs.getD i .any) (vs.getD i undef)):Rd C (.fn f cs) (.func (.func f) #[] vs.toArray)
 | slnil {s:Sl} (h0:s.len=0):Rd C (.sl s) (.slice none 0 0)
 | sl {s:Sl} (a:Addr) (cap:Nat) (g:Nat→Nat→Value) (hm:s.len≤maxLen) (hc:s.len≤cap)
   (hcell:∀ k c,k < s.len→c < s.sz→C.w.cell? (a.add (k*s.sz+c))=some (g k c))
   (hL:0 < s.len→¬ C.L a.block)
   (hrd:∀ k c,k < s.len→c < s.sz→Rd C (s.cell k c) (g k c)):Rd C (.sl s) (.slice (some a) s.len cap)
 | own {j:Nat} {v:Value} (h:C.nu j=some v):Rd C (.own j) v
 | ptr {j off b:Nat} (h:C.nu j=some (.pointer (some ⟨b,0,none⟩))):Rd C (.ptr j off) (.pointer (some ⟨b,off,none⟩))
 | eptr {s:Sl} {k off:Nat} (a:Addr) (g:Nat→Value) (hs:a.spot=none) (hL:off < s.sz→¬ C.L a.block)
   (hcell:∀ c,off+c < s.sz→C.w.cell? (a.add c)=some (g c))
   (hrd:∀ c,off+c < s.sz→Rd C (s.cell k (off+c)) (g c)):Rd C (.eptr s k off) (.pointer (some a))
 | pix {j base off b:Nat} {ix:List (Nat×Nat×Int)} (h:C.nu j=some (.pointer (some ⟨b,0,none⟩))) (hi:inB ix):Rd C (.pix j base ix off) (.pointer (some ⟨b,base+ixN ix+off,none⟩))
 | rptr {j sz off g n cap:Nat} {i:Int} (h:C.nu j=some (.slice (some ⟨g,0,none⟩) n cap)) (hi:0≤i∧i < (n:Int)):Rd C (.rptr j sz off i) (.pointer (some ⟨g,i.toNat*sz+off,none⟩))
 | rpix {j sz off g n cap:Nat} {i:Int} {ix:List (Nat×Nat×Int)} (h:C.nu j=some (.slice (some ⟨g,0,none⟩) n cap)) (hi:0≤i∧i < (n:Int)) (hb:inB ix):Rd C (.rpix j sz off i ix) (.pointer (some ⟨g,i.toNat*sz+off+ixN ix,none⟩))
 | iface {T:TypeId} {j:Nat} {v:Value} (h:C.nu j=some v):Rd C (.iface T j) (.iface T v)
 | win {j off len b:Nat} (h:C.nu j=some (.pointer (some ⟨b,0,none⟩))):Rd C (.win j off len) (.slice (some ⟨b,off,none⟩) len len)
structure Cx.Le (C C':Cx):Prop where
 cell:∀ a v,¬ C.L a.block→C.w.cell? a=some v→C'.w.cell? a=some v
 L:∀ a v,¬ C.L a.block→C.w.cell? a=some v→¬ C'.L a.block
 nu:∀ j v,C.nu j=some v→C'.nu j=some v
theorem Cx.Le.refl (C:Cx):C.Le C:=⟨fun _ _ _ h=>h,fun _ _ h _=>h,fun _ _ h=>h⟩
theorem Cx.Le.trans {A B D:Cx} (h:A.Le B) (k:B.Le D):A.Le D :=
 ⟨fun a v hl hc=>k.cell a v (h.L a v hl hc) (h.cell a v hl hc),fun a v hl hc=>k.L a v (h.L a v hl hc) (h.cell a v hl hc),
  fun j v hj=>k.nu j v (h.nu j v hj)⟩
theorem zau (a:Addr) (n:Nat):(a.add n).block=a.block:=by unfold Addr.add;split<;>rfl
theorem zt3 (s:Sl):0 < s.sz:=by cases s<;>simp[Sl.sz]
theorem Rd.mono {C C':Cx} (hle:C.Le C') {x:AV} {v:Value} (h:Rd C x v):Rd C' x v:=by
 induction h with
 | any=>exact .any
 | val=>exact .val
 | agg hl _ ih=>exact .agg hl ih
 | tup hl _ ih=>exact .tup hl ih
 | fn hl _ ih=>exact .fn hl ih
 | slnil h0=>exact .slnil h0
 | @sl s a cap g hm hc hcell hL _ ih =>
  refine .sl a cap g hm hc (fun k c hk hcc=>hle.cell _ _ ?_ (hcell k c hk hcc)) (fun h0=>?_) ih
  ·rw[zau];exact hL (by omega)
  ·have:=hle.L _ _ (by rw[zau];exact hL h0) (hcell 0 0 h0 (zt3 s))
   rwa [zau] at this
 | own h=>exact .own (hle.nu _ _ h)
 | ptr h=>exact .ptr (hle.nu _ _ h)
 | pix h hi=>exact .pix (hle.nu _ _ h) hi
 | rptr h hi=>exact .rptr (hle.nu _ _ h) hi
 | rpix h hi hb=>exact .rpix (hle.nu _ _ h) hi hb
 | iface h=>exact .iface (hle.nu _ _ h)
 | win h=>exact .win (hle.nu _ _ h)
 | @eptr s k off a g hs hL hcell hrd ih =>
  refine .eptr a g hs (fun h0=>?_) (fun c hc=>hle.cell _ _ ?_ (hcell c hc)) ih
  ·have:=hle.L _ _ (by rw[zau];exact hL h0) (hcell 0 (by omega))
   rwa [zau] at this
  ·rw[zau];exact hL (by omega)
def Rds (C:Cx) (cs:List AV) (vs:List Value):Prop:=vs.length=cs.length∧∀ i,i < cs.length→Rd C (cs.getD i .any) (vs.getD i undef)
theorem Rds.mk {C:Cx} {cs:List AV} {vs:List Value} (hl:vs.length=cs.length) (h:∀ i,i < cs.length→Rd C (cs.getD i .any) (vs.getD i undef)):Rds C cs vs:=⟨hl,h⟩
theorem Rds.mono {C C':Cx} (hle:C.Le C') {cs:List AV} {vs:List Value} (h:Rds C cs vs):Rds C' cs vs:=⟨h.1,fun i hi=>(h.2 i hi).mono hle⟩
theorem Rds.nil {C:Cx}:Rds C [] []:=⟨rfl,fun i hi=>absurd hi (Nat.not_lt_zero i)⟩
theorem Rds.cons {C:Cx} {c:AV} {cs:List AV} {v:Value} {vs:List Value} (h:Rd C c v) (hs:Rds C cs vs):Rds C (c::cs) (v::vs):=by
 refine ⟨by simp[hs.1],fun i hi=>?_⟩
 cases i with
 | zero=>exact h
 | succ i=>exact hs.2 i (by simpa using hi)
theorem Rds.uncons {C:Cx} {c:AV} {cs:List AV} {vs:List Value} (h:Rds C (c::cs) vs):∃ v vs',vs=v::vs'∧Rd C c v∧Rds C cs vs':=by
 obtain ⟨hl,h⟩:=h
 cases vs with
 | nil=>simp at hl
 | cons v vs'=>exact ⟨v,vs',rfl,h 0 (by simp),by simpa using hl,fun i hi=>h (i+1) (by simpa using hi)⟩
theorem Rds.unnil {C:Cx} {vs:List Value} (h:Rds C [] vs):vs=[]:=List.eq_nil_of_length_eq_zero h.1
theorem Rds.get {C:Cx} {cs:List AV} {vs:List Value} (h:Rds C cs vs) (i:Nat) (c:AV) (hc:cs[i]?=some c):∃ v,vs[i]?=some v∧Rd C c v:=by
 have hi:i < cs.length:=(List.getElem?_eq_some_iff.1 hc).1
 have hv:i < vs.length:=by rw[h.1];exact hi
 refine ⟨vs[i],yy3 hv,?_⟩
 have:=h.2 i hi
 rw[yy0,hc,yy0,yy3 hv] at this
 exact this
theorem Rds.of_get {C:Cx} {cs:List AV} {vs:List Value} (hl:vs.length=cs.length) (h:∀ (i:Nat) (c:AV) (v:Value),cs[i]?=some c→vs[i]?=some v→Rd C c v):Rds C cs vs:=by
 refine ⟨hl,fun i hi=>?_⟩
 have hv:i < vs.length:=by omega
 have e1:cs.getD i .any=cs[i]:=by rw[yy0,yy3 hi];rfl
 have e2:vs.getD i undef=vs[i]:=by rw[yy0,yy3 hv];rfl
 rw[e1,e2]
 exact h i _ _ (yy3 hi) (yy3 hv)
theorem Rds.set {C:Cx} {cs:List AV} {vs:List Value} (h:Rds C cs vs) (i:Nat) {c:AV} {v:Value} (hc:Rd C c v):Rds C (cs.set i c) (vs.set i v):=by
 refine Rds.of_get (by simp[h.1]) (fun j c' v' h1 h2=>?_)
 by_cases hij:i=j
 ·subst hij
  have hi:i < cs.length:=by have:=(List.getElem?_eq_some_iff.1 h1).1;simpa using this
  rw[List.getElem?_set_self hi] at h1
  rw[List.getElem?_set_self (by rw[h.1];exact hi)] at h2
  cases h1;cases h2;exact hc
 ·rw[List.getElem?_set_ne hij] at h1 h2
  obtain ⟨u,hu,hr⟩:=h.get j c' h1
  rw[hu] at h2;cases h2;exact hr
theorem Rds.append {C:Cx} {cs ds:List AV} {vs us:List Value} (h:Rds C cs vs) (k:Rds C ds us):Rds C (cs++ds) (vs++us):=by
 refine Rds.of_get (by simp[h.1,k.1]) (fun j c v h1 h2=>?_)
 by_cases hj:j < cs.length
 ·rw[List.getElem?_append_left hj] at h1
  rw[List.getElem?_append_left (by rw[h.1];exact hj)] at h2
  obtain ⟨u,hu,hr⟩:=h.get j c h1
  rw[hu] at h2;cases h2;exact hr
 ·rw[List.getElem?_append_right (by omega)] at h1
  rw[List.getElem?_append_right (by rw[h.1];omega),h.1] at h2
  obtain ⟨u,hu,hr⟩:=k.get _ c h1
  rw[hu] at h2;cases h2;exact hr
theorem Rds.drop {C:Cx} {cs:List AV} {vs:List Value} (h:Rds C cs vs) (n:Nat):Rds C (cs.drop n) (vs.drop n):=by
 refine Rds.of_get (by simp[h.1]) (fun j c v h1 h2=>?_)
 rw[List.getElem?_drop] at h1 h2
 obtain ⟨u,hu,hr⟩:=h.get _ c h1
 rw[hu] at h2;cases h2;exact hr
theorem Rds.take {C:Cx} {cs:List AV} {vs:List Value} (h:Rds C cs vs) (n:Nat):Rds C (cs.take n) (vs.take n):=by
 refine Rds.of_get (by simp[h.1]) (fun j c v h1 h2=>?_)
 have hj:j < n:=by have:=(List.getElem?_eq_some_iff.1 h1).1;simp at this;omega
 rw[List.getElem?_take_of_lt hj] at h1 h2
 obtain ⟨u,hu,hr⟩:=h.get _ c h1
 rw[hu] at h2;cases h2;exact hr
inductive Blk where
 | dead
 | free
 | cells (T:TypeId) (cs:List AV)
 | rows (E:TypeId) (s:Sl)
 | pub (s:Sl)
 | bit (p q:Prop)
def Blk.live:Blk→Bool
 | .cells _ _=>true
 | .rows _ _=>true
 | _=>false
def zfq:Value→Option Nat
 | .pointer (some a)=>some a.block
 | .slice (some a) _ _=>some a.block
 | _=>none
inductive SV where
 | plain (x:AV)
 | cond (t:List (Nat×Bool)) (x:AV)
def SV.boolOf:SV→Option Bool
 | .plain (.val (.bool b))=>some b
 | .cond _ (.val (.bool b))=>some b
 | _=>none
structure RSt where
 slots:List SV
 blks:List Blk
def RSt.slot (st:RSt) (d:Nat):SV:=st.slots.getD d (.plain .any)
def RSt.blk (st:RSt) (j:Nat):Blk:=st.blks.getD j .dead
def RSt.E (st:RSt) (gs:List Nat) (d:Nat):Option Bool:=if gs.contains d then (st.slot d).boolOf else none
structure Gl where
 w0:World
 L0:Nat→Prop
 A:Nat→Prop
 lt:∀ b,L0 b→b < w0.heap.size
 dis:∀ b,A b→¬ L0 b
 fix:Nat→Option Value
def z4s (blks:List Blk) (nu:Nat→Option Value) (b:Nat):Prop:=∃ j v,(blks.getD j .dead).live=true∧nu j=some v∧zfq v=some b
def cx (G:Gl) (blks:List Blk) (nu:Nat→Option Value) (w:World):Cx:=⟨w,fun b=>G.L0 b∨z4s blks nu b,nu⟩
def BlkOk (C:Cx) (base:Nat) (j:Nat):Blk→Prop
 | .dead=>True
 | .free=>C.nu j=none
 | .cells T cs=>∃ b vs,C.nu j=some (.pointer (some ⟨b,0,none⟩))∧C.w.heap[b]?=some (.cells vs.toArray T (0,0))∧Rds C cs vs
 | .rows E s=>∃ v vs,C.nu j=some v∧C.w.ownsRow base E s.sz v s.len vs∧(∀ k c,k < s.len→c < s.sz→Rd C (s.cell k c) (vs.getD (k*s.sz+c) undef))∧s.len≤maxLen
 | .pub s=>∃ v,C.nu j=some v∧Rd C (.sl s) v
 | .bit p q=>∃ b:Bool,C.nu j=some (.bool b)∧(b=true→p)∧(b=false→q)
theorem BlkOk.mono {C C':Cx} (hle:C.Le C') {base j:Nat} {x:Blk} (h:BlkOk C base j x)
  (hb:x.live=true→∀ v b,C.nu j=some v→zfq v=some b→C'.w.heap[b]?=C.w.heap[b]?) (hfree:C'.nu j=C.nu j):BlkOk C' base j x:=by
 cases x with
 | dead=>trivial
 | free=>exact hfree.trans h
 | cells T cs =>
  obtain ⟨b,vs,h1,h2,h3⟩:=h
  exact ⟨b,vs,hle.nu _ _ h1,by rw[hb rfl _ b h1 rfl];exact h2,h3.mono hle⟩
 | rows E s =>
  obtain ⟨v,vs,h1,h2,h3,h4⟩:=h
  refine ⟨v,vs,hle.nu _ _ h1,?_,fun k c hk hc=>(h3 k c hk hc).mono hle,h4⟩
  obtain ⟨e1,e2⟩:=h2
  refine ⟨e1,?_⟩
  rcases e2 with e2 | ⟨g,cap,cur,e3,e4,e5,e6⟩
  ·exact .inl e2
  ·refine .inr ⟨g,cap,cur,e3,e4,?_,e6⟩
   rw[hb rfl _ g h1 (by rw[e3];rfl)];exact e5
 | pub s =>
  obtain ⟨v,h1,h2⟩:=h
  exact ⟨v,hle.nu _ _ h1,h2.mono hle⟩
 | bit p q =>
  obtain ⟨b,h1,h2⟩:=h
  exact ⟨b,hle.nu _ _ h1,h2⟩
structure MInv (G:Gl) (blks:List Blk) (nu:Nat→Option Value) (w:World):Prop where
 ok:∀ j,BlkOk (cx G blks nu w) 0 j (blks.getD j .dead)
 apart:∀ j j' v v' b,j≠j'→(blks.getD j .dead).live=true→(blks.getD j' .dead).live=true→nu j=some v→nu j'=some v'→zfq v=some b→zfq v'≠some b
 low:∀ j v b,(blks.getD j .dead).live=true→nu j=some v→zfq v=some b→b < w.heap.size∧(G.w0.heap.size≤b∨G.A b)
 os:w.os=G.w0.os
 tape:w.tape=G.w0.tape
 output:w.output=G.w0.output
 size:G.w0.heap.size≤w.heap.size
 block:∀ b,b < G.w0.heap.size→¬ G.A b→w.heap[b]?=G.w0.heap[b]?
 fix:∀ k v,G.fix k=some v→nu k=some v
def SRd (E:Nat→Option Bool) (C:Cx):SV→Value→Prop
 | .plain x,v=>Rd C x v
 | .cond t x,v=>((∀ p,p∈t→E p.1=some p.2)∧Rd C x v)∨((∃ p,p∈t∧E p.1=some (!p.2))∧v=undef)
theorem SRd.mono {E E':Nat→Option Bool} {C C':Cx} (hle:C.Le C') (hE:∀ d b,E d=some b→E' d=some b) {x:SV} {v:Value} (h:SRd E C x v):SRd E' C' x v:=by
 cases x with
 | plain x=>exact Rd.mono hle h
 | cond t x =>
  rcases h with ⟨h1,h2⟩ | ⟨⟨p,h1,h2⟩,h3⟩
  ·exact .inl ⟨fun p hp=>hE _ _ (h1 p hp),h2.mono hle⟩
  ·exact .inr ⟨⟨p,h1,hE _ _ h2⟩,h3⟩
structure RInv (G:Gl) (gs:List Nat) (st:RSt) (nu:Nat→Option Value) (a:Act) (w:World):Prop where
 mem:MInv G st.blks nu w
 size:a.tmps.size=st.slots.length
 defers:a.defers=[]
 slots:∀ d,d < st.slots.length→SRd (st.E gs) (cx G st.blks nu w) (st.slot d) (a.tmps.getD d undef)
