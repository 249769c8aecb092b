/-
  The walk over abstract states.
-/
import Derived.Test.YtobfadhgiaphnaaGreatXAbSel
namespace Go.Proofs.YtobfadhgiaphnaaGreat.Ab
open Go Go.RowKit
set_option linter.unusedSimpArgs false
set_option linter.unusedVariables false
def Sl.cut (a b:Nat):Sl→Sl
 | .ints l=>.ints ((l.drop a).take (b - a))
 | .strs l=>.strs ((l.drop a).take (b - a))
 | .bytes l=>.bytes ((l.drop a).take (b - a))
 | .powers l=>.powers ((l.drop a).take (b - a))
 | .packets l=>.packets ((l.drop a).take (b - a))
 | .waits l=>.waits ((l.drop a).take (b - a))
 | .asked l=>.asked ((l.drop a).take (b - a))
 | .ripes l=>.ripes ((l.drop a).take (b - a))
 | .deeds l=>.deeds ((l.drop a).take (b - a))
 | .replies l=>.replies ((l.drop a).take (b - a))
 | .orders l=>.orders ((l.drop a).take (b - a))
 | .carries l=>.carries ((l.drop a).take (b - a))
 | .intss l=>.intss ((l.drop a).take (b - a))
theorem zatq {α:Type} (l:List α) (a b k:Nat) (d:α) (h:k < b - a):((l.drop a).take (b - a)).getD k d=l.getD (a+k) d:=by
 rw[yy0,List.getElem?_take_of_lt h,List.getElem?_drop,← yy0]
theorem zal2 (s:Sl) (a b:Nat) (h1:a≤b) (h2:b≤s.len):(s.cut a b).len=b - a∧(s.cut a b).sz=s.sz∧∀ k c,k < b - a→(s.cut a b).cell k c=s.cell (a+k) c:=by
 cases s<;>simp only[Sl.len] at h2<;>refine ⟨?_,rfl,fun k c hk=>?_⟩<;>first
  | (simp only[Sl.cut,Sl.len,List.length_take,List.length_drop];omega)
  | (simp only[Sl.cut,Sl.cell,Sl.row,zatq _ _ _ _ _ hk])
def z6r (d:Nat):Option AV→Option Int
 | none=>some d
 | some (.val (.int _ i))=>some i
 | _=>none
section sound
variable {P:Program} {G:Gl} {blks:List Blk} {nu:Nat→Option Value} {w:World} (h:MInv G blks nu w)
include h
omit h in
theorem z93 {C:Cx} {d:Nat} {x:Option AV} {i:Int} (hx:z6r d x=some i) {v:Option Value} (hv:(x=none∧v=none)∨∃ a u,x=some a∧v=some u∧Rd C a u) :
  (v=none∧i=d)∨∃ k,v=some (.int k i):=by
 rcases hv with ⟨rfl,rfl⟩ | ⟨a,u,rfl,rfl,hr⟩
 ·simp only[z6r,yy1] at hx
  exact .inl ⟨rfl,hx.symm⟩
 ·unfold z6r at hx
  split at hx
  ·rename_i e;cases e
  ·rename_i k i' e
   simp only[yy1] at e hx
   subst e;subst hx
   cases hr
   exact .inr ⟨_,rfl⟩
  ·cases hx
omit h in
theorem zr4 {isSlice:Bool} {len cap:Nat} {lo hi:Option Value} {l r:Int} (hlo:(lo=none∧l=0)∨∃ k,lo=some (.int k l)) (hhi:(hi=none∧r=len)∨∃ k,hi=some (.int k r))
  (h0:0≤l) (h1:l≤r) (h2:r≤(len:Int)) (h3:len≤cap) (w:World):(Instr.sliceBounds isSlice len cap lo hi none).run P w=.ok (l.toNat,r.toNat,cap) w:=by
 have er:(r.toNat:Int)=r:=Int.toNat_of_nonneg (by omega)
 rcases hlo with ⟨rfl,rfl⟩ | ⟨k,rfl⟩<;>rcases hhi with ⟨rfl,rfl⟩ | ⟨k',rfl⟩
 ·simp[Instr.sliceBounds]
 ·have hb:=run_sliceBound (P:=P) w k' r cap (if isSlice then .sliceAcap else .sliceAlen) (by omega) (by omega)
  simp[Instr.sliceBounds,hb]
 ·have hb:=run_sliceBound (P:=P) w k l len .sliceB h0 (by omega)
  simp[Instr.sliceBounds,hb]
 ·have hb':=run_sliceBound (P:=P) w k' r cap (if isSlice then .sliceAcap else .sliceAlen) (by omega) (by omega)
  have hb:=run_sliceBound (P:=P) w k l r.toNat .sliceB h0 (by omega)
  simp[Instr.sliceBounds,hb,hb']
theorem zafe {o:Oper} {T:TypeId} {x:Operand} {lo hi:Option Operand} {e:Operand→Value} {g:Operand→AV} {s:ByteArray} {l r:Int} (ho:o.op=.slice T x lo hi none) (hT:P.underlying T=some .string)
  (hg:∀ x,Rd (cx G blks nu w) (g x) (e x)) (hx:g x=.val (.string s)) (hl:z6r 0 (lo.map g)=some l) (hr:z6r s.size (hi.map g)=some r) (hb:0≤l∧l≤r∧r≤(s.size:Int)) :
  Does P o e w (zln G blks nu w ⟨[0≤l∧l≤r∧r≤(s.size:Int)],.val (.string (s.extract l.toNat r.toNat)),[]⟩):=by
 have hv:e x=.string s:=by
  have:=hg x;rw[hx] at this
  generalize e x=v at this
  cases this;rfl
 have conv:∀ q:Option Operand,(q.map g=none∧q.map e=none)∨∃ a u,q.map g=some a∧q.map e=some u∧Rd (cx G blks nu w) a u:=by
  intro q
  cases q with
  | none=>exact .inl ⟨rfl,rfl⟩
  | some z=>exact .inr ⟨_,_,rfl,rfl,hg z⟩
 have h1:=z93 hl (conv lo)
 have h2:=z93 hr (conv hi)
 have hrun:=zr4 (P:=P) (isSlice:=false) (len:=s.size) (cap:=s.size) (lo:=lo.map e) (hi:=hi.map e) (l:=l) (r:=r) h1 h2 hb.1 hb.2.1 hb.2.2 (Nat.le_refl _) w
 refine Does.value (v:=.string (s.extract l.toNat r.toNat)) (w':=w) ?_ ⟨nu,.refl _,h,.val⟩
 simp[execOp,ho,hv,run_sliceAt_string w T _ _ _ _ hT,Instr.slice,run_underlying hT,hrun]
theorem zahn {o:Oper} {T E:TypeId} {x:Operand} {lo hi:Option Operand} {e:Operand→Value} {g:Operand→AV} {s:Sl} {l r:Int} (ho:o.op=.slice T x lo hi none) (hT:P.underlying T=some (.slice E))
  (hn:zr P (sizeOf E)=some s.sz)
  (hg:∀ x,Rd (cx G blks nu w) (g x) (e x)) (hx:g x=.sl s) (hl:z6r 0 (lo.map g)=some l) (hr:z6r s.len (hi.map g)=some r) (hb:0≤l∧l≤r∧r≤(s.len:Int)) :
  Does P o e w (zln G blks nu w ⟨[0≤l∧l≤r∧r≤(s.len:Int)],.sl (s.cut l.toNat r.toNat),[]⟩):=by
 have conv:∀ q:Option Operand,(q.map g=none∧q.map e=none)∨∃ a u,q.map g=some a∧q.map e=some u∧Rd (cx G blks nu w) a u:=by
  intro q
  cases q with
  | none=>exact .inl ⟨rfl,rfl⟩
  | some z=>exact .inr ⟨_,_,rfl,rfl,hg z⟩
 have h1:=z93 hl (conv lo)
 have h2:=z93 hr (conv hi)
 obtain ⟨c1,c2,c3⟩:=zal2 s l.toNat r.toNat (by omega) (by omega)
 have helem:P.elem T=E:=by simp[Program.elem,hT]
 have hv:=hg x
 rw[hx] at hv
 have hat:(Instr.sliceAt T (e x) (lo.map e) (hi.map e) none).run P w=(Instr.slice T (e x) (lo.map e) (hi.map e) none).run P w:=run_sliceAt_slice w T _ _ _ _ (by rw[hT,helem])
 generalize hvv:e x=v at hv hat
 cases hv with
 | slnil h0 =>
  have hrun:=zr4 (P:=P) (isSlice:=true) (len:=0) (cap:=0) (lo:=lo.map e) (hi:=hi.map e) (l:=l) (r:=r) h1 (by rw[h0] at h2;exact h2) hb.1 hb.2.1 (by omega) (Nat.le_refl _) w
  have e0:l.toNat=0:=by omega
  have e1:r.toNat=0:=by omega
  rw[e0,e1] at hrun
  refine Does.value (v:=.slice none 0 0) (w':=w) ?_ ⟨nu,.refl _,h,.slnil (by rw[c1];omega)⟩
  simp[execOp,ho,hvv,hat,Instr.slice,run_underlying hT,hrun,zq hn w]
 | sl a cap gg hm hc hcell hL hrd =>
  have hrun:=zr4 (P:=P) (isSlice:=true) (len:=s.len) (cap:=cap) (lo:=lo.map e) (hi:=hi.map e) (l:=l) (r:=r) h1 h2 hb.1 hb.2.1 hb.2.2 hc w
  refine Does.value (v:=.slice (some (if cap=l.toNat then a else a.add (l.toNat*s.sz))) (r.toNat - l.toNat) (cap - l.toNat)) (w':=w) ?_ ?_
  ·simp only[execOp,ho,hvv,hat,Option.map_none,Instr.slice,Sem.run_bind,run_underlying hT,Result.andThen_ok,hrun,zq hn w,Sem.run_pure]
   congr 2
   split<;>simp_all
  ·refine ⟨nu,.refl _,h,?_⟩
   by_cases hz:r.toNat - l.toNat=0
   ·rw[← c1] at hz
    have hr2:Rd (cx G blks nu w) (.sl (s.cut l.toNat r.toNat)) (.slice (some (if cap=l.toNat then a else a.add (l.toNat*s.sz))) (s.cut l.toNat r.toNat).len (cap - l.toNat)) :=
     .sl _ _ (fun _ _=>undef) (by omega) (by omega) (fun k c hk=>by omega) (fun hp=>by omega) (fun k c hk=>by omega)
    rwa [c1] at hr2
   ·have hcl:cap≠l.toNat:=by omega
    rw[if_neg hcl]
    have hsp:a.spot=none:=by
     have h0:0 < s.len:=by omega
     have h1:=hcell 0 0 h0 (zt3 s)
     simp only[Nat.zero_mul,Nat.add_zero] at h1
     have e0:a.add 0=a:=by simp[Addr.add]
     rw[e0] at h1
     unfold World.cell? at h1
     split at h1
     ·split at h1
      ·cases h1
      ·rename_i h2;simpa using h2
     ·cases h1
    have hr2:Rd (cx G blks nu w) (.sl (s.cut l.toNat r.toNat)) (.slice (some (a.add (l.toNat*s.sz))) (s.cut l.toNat r.toNat).len (cap - l.toNat)):=by
     refine .sl _ _ (fun k c=>gg (l.toNat+k) c) (by omega) (by omega) (fun k c hk hcc=>?_) (fun _=>by rw[zau];exact hL (by omega)) (fun k c hk hcc=>?_)
     ·rw[c2] at hcc ⊢
      rw[zakl a hsp,← Nat.add_assoc,← Nat.add_mul]
      exact hcell _ c (by omega) hcc
     ·rw[c2] at hcc
      rw[c3 k c (by omega)]
      exact hrd _ c (by omega) hcc
    rwa [c1] at hr2
theorem zaff {o:Oper} {T:TypeId} {x y:Operand} {e:Operand→Value} {s:ByteArray} {k:IntKind} {i:Int} (ho:o.op=.index T x y) (hT:P.underlying T=some .string)
  (hx:Rd (cx G blks nu w) (.val (.string s)) (e x)) (hy:Rd (cx G blks nu w) (.val (.int k i)) (e y)) (hi:0≤i∧i < (s.size:Int)) :
  Does P o e w (zln G blks nu w ⟨[0≤i∧i < (s.size:Int)],.val (.int .u8 ((s.data.toList.getD i.toNat 0).toNat:Nat)),[]⟩):=by
 generalize hv:e x=v at hx
 generalize hw:e y=b at hy
 cases hx
 cases hy
 have hlt:i.toNat < s.size:=by omega
 have e1:s[i.toNat]?=some (s.data.toList.getD i.toNat 0):=by
  have hlt':i.toNat < s.data.toList.length:=by simpa using hlt
  rw[yy0,yy3 hlt']
  simp[getElem?_pos,hlt]
  rfl
 refine Does.value (v:=.int .u8 ((s.data.toList.getD i.toNat 0).toNat:Nat)) (w':=w) ?_ ⟨nu,.refl _,h,.val⟩
 simp[execOp,ho,hv,hw,Instr.index,asIntOf,run_underlying hT,hi.1,e1]
theorem zanq {o:Oper} {T U E:TypeId} {x:Operand} {e:Operand→Value} {s:ByteArray} (ho:o.op=.convert T U x) (hT:P.underlying T=some .string) (hU:P.underlying U=some (.slice E)) (hE:P.underlying E=some (.int .u8))
  (hx:Rd (cx G blks nu w) (.val (.string s)) (e x)) (hs:s.size≤9223372036854775807):Does P o e w (zln G blks nu w ⟨[s.size≤9223372036854775807],.sl (.bytes s.data.toList),[]⟩):=by
 generalize hv:e x=v at hx
 cases hx
 have hrun:=run_bytes_of_string (P:=P) w T U E s hT hU hE
 generalize hcap:grownCap w s.size 0 E=cap at hrun
 let w':=w.drew.alloc (.cells (bytesRow s cap) E ((bytesRow s cap).size,(bytesRow s cap).size+1))
 have hheap:w'.heap=w.heap.push (.cells (bytesRow s cap) E ((bytesRow s cap).size,(bytesRow s cap).size+1)):=rfl
 obtain ⟨m1,m2⟩:=h.step (w':=w') (blks':=blks) (nu':=nu) (fun _=>False) (fun _ _ h=>h) (fun b hb _=>by rw[hheap,Array.getElem?_push_lt hb,Array.getElem?_eq_getElem hb]) (by rw[hheap,Array.size_push];omega) rfl rfl rfl (fun _ _=>rfl) (fun _ _=>rfl) (fun _ _ h=>h.elim)
  (fun _ _ _ h=>h.elim) (fun _ _ _ _ _ _ h=>h.elim)
 have hcell:∀ k,k < s.data.toList.length→w'.cell? ((⟨w.heap.size,0,none⟩:Addr).add k)=some (.int .u8 ((s.data.toList.getD k 0).toNat:Nat)):=by
  intro k hk
  have hk':k < s.data.size:=by simpa using hk
  have hb:w'.heap[w.heap.size]?=some (.cells (bytesRow s cap) E ((bytesRow s cap).size,(bytesRow s cap).size+1)):=by rw[hheap];exact Array.getElem?_push_size
  rw[zaq,Nat.zero_add]
  have:=cell_of_row w' w.heap.size k (bytesRow s cap) E ((bytesRow s cap).size,(bytesRow s cap).size+1) hb
  rw[this,bytesRow_at s cap k hk',yy0,yy3 hk]
  simp
 refine Does.value (v:=.slice (some ⟨w.heap.size,0,none⟩) s.size cap) (w':=w') (by simp only[execOp,ho,hv,Sem.run_bind,hrun,Result.andThen_ok,Sem.run_pure];rfl) ⟨nu,m1,m2,?_⟩
 have hlen:s.data.toList.length=s.size:=Array.length_toList
 have hnl:∀ b,¬ (cx G blks nu w').L b∨b < w.heap.size:=by
  intro b
  by_cases hb:b < w.heap.size
  ·exact .inr hb
  ·left
   rintro (h0 | ⟨j,u,h1,h2,h3⟩)
   ·have:=G.lt b h0;have:=h.size;omega
   ·have:=(h.low j u b h1 h2 h3).1;omega
 have hcapge:s.size≤cap:=by
  rw[← hcap]
  exact grownCap_ge w s.size 0 E
 have hr:Rd (cx G blks nu w') (.sl (.bytes s.data.toList)) (.slice (some ⟨w.heap.size,0,none⟩) (Sl.bytes s.data.toList).len cap):=by
  refine .sl _ _ (fun k _=>.int .u8 ((s.data.toList.getD k 0).toNat:Nat)) (by show s.data.toList.length≤maxLen;unfold maxLen;omega) (by show s.data.toList.length≤cap;omega) (fun k c hk hc=>?_) (fun _=>?_) (fun k c hk hc=>?_)
  ·have hc0:c=0:=by have:c < 1:=hc;omega
   subst hc0
   have:=hcell k hk
   show w'.cell? ((⟨w.heap.size,0,none⟩:Addr).add (k*1+0))=_
   rwa [Nat.mul_one,Nat.add_zero]
  ·rcases hnl w.heap.size with q | q
   ·exact q
   ·omega
  ·have hc0:c=0:=by have:c < 1:=hc;omega
   subst hc0
   exact Rd.val
 rwa [show (Sl.bytes s.data.toList).len=s.size from hlen] at hr
theorem zaj1 {o:Oper} {T U E:TypeId} {x:Operand} {e:Operand→Value} {l:List UInt8} (ho:o.op=.convert T U x) (hU:P.underlying U=some .string) (hT:P.underlying T=some (.slice E)) (hE:P.underlying E=some (.int .u8))
  (hx:Rd (cx G blks nu w) (.sl (.bytes l)) (e x)):Does P o e w (zln G blks nu w ⟨[],.val (.string ⟨l.toArray⟩),[]⟩):=by
 generalize hv:e x=v at hx
 cases hx with
 | slnil h0 =>
  have hl:l=[]:=List.eq_nil_of_length_eq_zero h0
  subst hl
  refine Does.value (v:=.string ⟨#[]⟩) (w':=w) ?_ ⟨nu,.refl _,h,.val⟩
  have:=run_convert_bytes_nil (P:=P) w T E hT hE 0 0 U hU
  simp only[execOp,ho,hv,Sem.run_bind,this,Result.andThen_ok,Sem.run_pure]
  rfl
 | sl a cap g hm hc hcell hL hrd =>
  refine Does.value (v:=.string ⟨l.toArray⟩) (w':=w) ?_ ⟨nu,.refl _,h,.val⟩
  have:=run_convert_bytes_back (P:=P) w T U E a cap l hT hE hU (fun j hj=>by
   have h1:=hcell j 0 hj (zt3 _)
   simp only[Sl.sz,Nat.mul_one,Nat.add_zero] at h1
   have h2:=hrd j 0 hj (zt3 _)
   rw[show (cx G blks nu w).w=w from rfl] at h1
   rw[h1]
   generalize g j 0=u at h2
   simp only[Sl.cell,Sl.row,List.getD_cons_zero] at h2
   cases h2
   rw[yy0,yy3 hj]
   rfl)
  show _=_
  simp only[execOp,ho,hv,Sem.run_bind,Sl.len,this,Result.andThen_ok,Sem.run_pure]
theorem zadq {o:Oper} {op:BinOp} {T U:TypeId} {x y:Operand} {e:Operand→Value} {k k':IntKind} {u v:Int} (hop:op=.shl∨op=.shr) (ho:o.op=.binOp op T x y U)
  (hx:Rd (cx G blks nu w) (.val (.int k u)) (e x)) (hy:Rd (cx G blks nu w) (.val (.int k' v)) (e y)) (hr:0≤v) :
  ∀ ob,Does P o e w (zln G blks nu w ⟨ob,.val (.int k (if op=.shl then k.wrap (u*2 ^ (min v.toNat k.bits)) else u.fdiv (2 ^ (min v.toNat k.bits)))),[]⟩):=by
 intro ob
 generalize hv:e x=a at hx
 generalize hw:e y=b at hy
 cases hx;cases hy
 have hn:¬ v < 0:=by omega
 rcases hop with rfl | rfl
 ·refine Does.value (v:=.int k (k.wrap (u*2 ^ (min v.toNat k.bits)))) (w':=w) ?_ ⟨nu,.refl _,h,.val⟩
  simp[execOp,ho,hv,hw,eqGuard,binOp,Op.shift,hn]
 ·refine Does.value (v:=.int k (u.fdiv (2 ^ (min v.toNat k.bits)))) (w':=w) ?_ ⟨nu,.refl _,h,.val⟩
  simp[execOp,ho,hv,hw,eqGuard,binOp,Op.shift,hn]
theorem zatr {o:Oper} {T E:TypeId} {x:Operand} {e:Operand→Value} {j off n m:Nat} (ho:o.op=.slice T x none none none) (hT:P.underlying T=some (.array (n+1) E)) (hm:zr P (sizeOf E)=some m)
  (hx:Rd (cx G blks nu w) (.ptr j off) (e x)):Does P o e w (zln G blks nu w ⟨[],.win j off (n+1),[]⟩):=by
 generalize hv:e x=v at hx
 cases hx with
 | @ptr _ _ b hb =>
  refine Does.value (v:=.slice (some ⟨b,off,none⟩) (n+1) (n+1)) (w':=w) ?_ (za8 h (.win hb))
  have e0:(⟨b,off,none⟩:Addr).add 0=⟨b,off,none⟩:=by rw[zaq,Nat.add_zero]
  simp[execOp,ho,hv,Instr.sliceAt,run_underlying hT,Instr.sureAddr,Instr.sliceBounds,zq hm w,e0]
omit h in
theorem zacn {blks:List Blk} {nu:Nat→Option Value} {w:World} (h:MInv G blks nu w) {o:Oper} {x y:Operand} {t:TypeId} {e:Operand→Value} {E:TypeId} {bytes:Nat} {j off len:Nat} {U:TypeId} {cs:List AV}
  {s0 s u r:Sl} {ob:List Prop} {id:Nat} (ho:o.op=.call { callee:=.builtin .append,args:=#[x,y],argTypes:=#[t,t] }) (hi:z2y P t=some (E,s0.sz,bytes)) (h0:s0.len=0)
  (hx:Rd (cx G blks nu w) (.win j off len) (e x)) (hb:blks.getD j .dead=.cells U cs) (hlen:((cs.drop off).take (len*s0.sz)).length=len*s0.sz)
  (hpush:zw2 len s0 ((cs.drop off).take (len*s0.sz))=some (ob,s)) (hob:z15 ob) (happ:s.app u=some r) (hsrc:Src (cx G blks nu w) u (e y)) (hu:0 < u.len)
  (hf:blks.getD id .dead=.free) (hbytes:(s.len+u.len)*bytes≤140737488355328) :
  Does P o e w (zln G blks nu w ⟨ob++[(s.len+u.len)*bytes≤140737488355328,0 < u.len],.own id,[(id,.rows E r)]⟩):=by
 obtain ⟨hT,i,z,hi1,hz,hzs,hsz,hby,hpos⟩:=zzc hi
 obtain ⟨p1,p2,p3,_,p5⟩:=zzd len hpush hob
 rw[h0,Nat.zero_add] at p1
 have hk:=h.ok j
 rw[hb] at hk
 obtain ⟨b,vs,e1,e2,e3⟩:=hk
 obtain ⟨news,hl,hrd,hcase⟩:=hsrc
 obtain ⟨a1,a2,a3,a4,a5⟩:=zal0 happ
 have hsum:s.len+u.len≤140737488355328:=Nat.le_trans (Nat.le_mul_of_pos_right _ hpos) hbytes
 have hmax:s.len+u.len≤maxLen:=by unfold maxLen;omega
 have hz0:=zt3 s0
 generalize hv:e x=v at hx
 cases hx with
 | @win _ _ _ b' e4 =>
  have:b=b':=by have:=e1.symm.trans e4;simpa using this
  subst this
  rcases hcase with ⟨hy,hu0⟩ | ⟨a,c,hy,hcells⟩
  ·omega
  ·have hr0:Rds (cx G blks nu w) ((cs.drop off).take (len*s0.sz)) ((vs.drop off).take (len*s0.sz)):=(e3.drop off).take _
   have holen:((vs.drop off).take (len*s0.sz)).length=len*s0.sz:=by rw[hr0.1];exact hlen
   obtain ⟨v',w',hrun,k1,k2⟩:=run_append_arg_grows (P:=P) w t o.type E i z s0.sz bytes hT hi1 hz hsz hby (hzs.trans hsz) hz0 ⟨b,off,none⟩ len len ((vs.drop off).take (len*s0.sz)) holen
    (fun q u' hq=>by
     rw[zaq,cell_of_row w b (off+q) vs.toArray U (0,0) e2]
     have hin:q < len*s0.sz:=by have:=(List.getElem?_eq_some_iff.1 hq).1;omega
     rw[List.getElem?_take_of_lt hin,List.getElem?_drop] at hq
     simpa using hq) a u.len c news (by rw[hl,a3,p2]) hcells (by omega) (by rw[← p1];exact hmax) (by rw[← p1];exact hbytes)
   have hown':w'.ownsRow w.heap.size E r.sz v' r.len (((vs.drop off).take (len*s0.sz))++news):=by rw[a2,a1,p2,p1];exact k1
   have hown0:w'.ownsRow 0 E r.sz v' r.len (((vs.drop off).take (len*s0.sz))++news):=by
    refine ⟨hown'.1,hown'.2.imp (fun q=>q) ?_⟩
    rintro ⟨g,cap,cur,q1,_,q2⟩
    exact ⟨g,cap,cur,q1,Nat.zero_le _,q2⟩
   have hread:∀ C',(cx G blks nu w).Le C'→∀ k c,k < r.len→c < r.sz→Rd C' (r.cell k c) ((((vs.drop off).take (len*s0.sz))++news).getD (k*r.sz+c) undef):=by
    intro C' hle k c hk hc
    rw[a2,p2] at hc ⊢
    by_cases hks:k < s.len
    ·have hlt:k*s0.sz+c < ((vs.drop off).take (len*s0.sz)).length:=by
      rw[holen]
      calc k*s0.sz+c < k*s0.sz+s0.sz:=by omega
       _=(k+1)*s0.sz:=by rw[Nat.add_mul,Nat.one_mul]
       _≤len*s0.sz:=Nat.mul_le_mul_right _ (by omega)
     rw[zn5 hlt,a4 k c hks]
     have:=p5 _ _ hr0 k c (by omega) hc
     rw[h0,Nat.zero_add] at this
     exact this.mono hle
    ·obtain ⟨q,rfl⟩:∃ q,k=s.len+q:=⟨k - s.len,by omega⟩
     have e1:(s.len+q)*s0.sz+c=((vs.drop off).take (len*s0.sz)).length+(q*s0.sz+c):=by rw[holen,p1,Nat.add_mul];omega
     rw[e1,z6q,a5]
     have:=hrd q c (by omega) (by rw[a3,p2];exact hc)
     rw[a3,p2] at this
     exact this.mono hle
   obtain ⟨nu',k5,k6,k7⟩:=h.putRow (blks1:=blks) (old:=none) (row:=none) (w':=w') hf rfl (fun _ _ _=>rfl) (fun _ h=>by cases h) hown0 (by rw[a1];exact hmax) hread k2 (fun b hb=>by cases hb)
    (.inr fun b hb=>(hown'.lt b (by rw[← z9y hown'];exact hb)).1)
   refine Does.value (v:=v') (w':=w') ?_ ⟨nu',by simpa[upd] using k5,by simpa[upd] using k6,.own k7⟩
   simp[execOp,ho,resolve,invoke,builtin,hv,hy,hrun,Result.andThen]
end sound
