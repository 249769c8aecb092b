/-
  The walk over abstract states.
-/
import Derived.Test.YtobfadhgiaphnaaGreatXAbMem
namespace Go.Proofs.YtobfadhgiaphnaaGreat.Ab
open Go Go.RowKit
set_option linter.unusedSimpArgs false
set_option linter.unusedVariables false
def zr {α:Type} (P:Program):Sem α→Option α
 | .pure a=>some a
 | .program k=>zr P (k P)
 | _=>none
theorem zq {α:Type} {P:Program} {s:Sem α} {a:α} (h:zr P s=some a) (w:World):s.run P w=.ok a w:=by
 induction s with
 | pure b=>simp only[zr,yy1] at h;subst h;rfl
 | program k ih=>exact ih P h
 | _=>simp[zr] at h
def z15:List Prop→Prop
 | []=>True
 | p::l=>p∧z15 l
structure Res where
 obl:List Prop
 v:AV
 bs:List (Nat×Blk)
def upd (blks:List Blk) (bs:List (Nat×Blk)):List Blk:=bs.foldl (fun b p=>b.set p.1 p.2) blks
abbrev Spec:=List AV→(Nat→Blk)→Nat→Option Res
def zln (G:Gl) (blks:List Blk) (nu:Nat→Option Value) (w:World) (r:Res) (v:Value) (w':World):Prop :=
 ∃ nu',(cx G blks nu w).Le (cx G (upd blks r.bs) nu' w')∧MInv G (upd blks r.bs) nu' w'∧Rd (cx G (upd blks r.bs) nu' w') r.v v
def Does (P:Program) (o:Oper) (e:Operand→Value) (w:World) (Q:Value→World→Prop):Prop :=
 match (execOp e o).run P w with
 | .ok (.value v) w'=>Q v w'
 | .ok .skip w'=>Q undef w'
 | .ok (.enter f args) w'=>Calls P f args w' (fun x w''=>∃ v,x=.returned v∧Q v w'')
 | _=>False
theorem Does.value {P:Program} {o:Oper} {e:Operand→Value} {w w':World} {Q:Value→World→Prop} {v:Value} (h:(execOp e o).run P w=.ok (.value v) w') (hq:Q v w'):Does P o e w Q:=by
 unfold Does;rw[h];exact hq
theorem Does.skip {P:Program} {o:Oper} {e:Operand→Value} {w w':World} {Q:Value→World→Prop} (h:(execOp e o).run P w=.ok .skip w') (hq:Q undef w'):Does P o e w Q:=by
 unfold Does;rw[h];exact hq
theorem Does.enter {P:Program} {o:Oper} {e:Operand→Value} {w w':World} {Q:Value→World→Prop} {f:FuncId} {args:Array Value} (h:(execOp e o).run P w=.ok (.enter f args) w')
  (hq:Calls P f args w' (fun x w''=>∃ v,x=.returned v∧Q v w'')):Does P o e w Q:=by
 unfold Does;rw[h];exact hq
theorem Does.wp {P:Program} {o:Oper} {a:Act} {w:World} {Q:Value→World→Prop} (h:Does P o a.eval w Q) {K:Act→World→Prop} {X:Exit→Act→World→Prop}
  (hk:∀ v w',Q v w'→K (a.put o.dst v) w'):o.wp P a w K X:=by
 unfold Does at h
 unfold Oper.wp
 generalize (execOp a.eval o).run P w=r at *
 cases r with
 | halt x w'=>exact h.elim
 | ok n w' =>
  cases n<;>simp only at h<;>simp only[Oper.upon]
  case value v=>exact hk _ _ h
  case skip=>exact hk _ _ h
  case enter f args=>exact h.mono fun e w'' ⟨v,he,hq⟩=>by subst he;exact hk _ _ hq
  all_goals exact h.elim
theorem za8 {G:Gl} {blks:List Blk} {nu:Nat→Option Value} {w:World} (h:MInv G blks nu w) {x:AV} {v:Value} (hr:Rd (cx G blks nu w) x v) :
  zln G blks nu w ⟨[],x,[]⟩ v w:=⟨nu,.refl _,h,hr⟩
def cellsOf:AV→Option (List AV)
 | .agg cs=>some cs
 | .val v=>some (v.cells.toList.map .val)
 | .sl s=>some [.sl s]
 | .ptr j off=>some [.ptr j off]
 | .eptr s k off=>some [.eptr s k off]
 | .pix j b ix o=>some [.pix j b ix o]
 | .rptr j z o i=>some [.rptr j z o i]
 | .fn f cs=>some [.fn f cs]
 | _=>none
theorem z4y (C:Cx) (vs:List Value):Rds C (vs.map .val) vs:=by
 refine Rds.of_get (by simp) (fun i c v h1 h2=>?_)
 rw[List.getElem?_map,h2] at h1
 simp at h1;subst h1;exact .val
theorem zaaj {C:Cx} {x:AV} {v:Value} (h:Rd C x v) {cs:List AV} (hc:cellsOf x=some cs):Rds C cs v.cells.toList:=by
 cases h<;>simp only[cellsOf,yy1,reduceCtorEq] at hc<;>subst hc
 case val=>exact z4y C _
 case agg vs hl h=>exact ⟨by simpa[Value.cells] using hl,by simpa[Value.cells] using h⟩
 case fn hl h=>exact .cons (.fn hl h) .nil
 case slnil h0=>exact .cons (.slnil h0) .nil
 case sl a cap g hm hcp hcell hL hrd=>exact .cons (.sl a cap g hm hcp hcell hL hrd) .nil
 case ptr h=>exact .cons (.ptr h) .nil
 case eptr a g hs hL hcell hrd=>exact .cons (.eptr a g hs hL hcell hrd) .nil
 case pix h hi=>exact .cons (.pix h hi) .nil
 case rptr h hi=>exact .cons (.rptr h hi) .nil
theorem size_push (P:Program) (w:World) (v:Value) (t:TypeId):(newVar t v).run P w=.ok ⟨w.heap.size,0,none⟩ (w.alloc (.cells v.cells t)):=by
 simp[newVar,newRow]
section sound
variable {P:Program} {G:Gl} {blks:List Blk} {nu:Nat→Option Value} {w:World} (h:MInv G blks nu w)
include h
theorem zan5 {o:Oper} {T:TypeId} {e:Operand→Value} {z:Value} {id:Nat} (ho:o.op=.alloc T) (hz:zr P (zeroValue T)=some z) (hf:blks.getD id .dead=.free) :
  Does P o e w (zln G blks nu w ⟨[],.ptr id 0,[(id,.cells T (z.cells.toList.map .val))]⟩):=by
 obtain ⟨nu',h1,h2,h3⟩:=h.alloc (T:=T) hf (z4y _ z.cells.toList)
 refine Does.value (v:=.pointer (some ⟨w.heap.size,0,none⟩)) (w':=w.alloc (.cells z.cells T)) ?_ ⟨nu',?_,?_,.ptr h3⟩
 ·simp[execOp,ho,Instr.alloc,zq hz w,size_push]
 ·simpa[upd] using h1
 ·simpa[upd] using h2
theorem zat6 {o:Oper} {T:TypeId} {x:Operand} {e:Operand→Value} {c:AV} {cs:List AV} {id:Nat} (ho:o.op=.box T x) (hx:Rd (cx G blks nu w) c (e x)) (hc:cellsOf c=some cs)
  (hf:blks.getD id .dead=.free):Does P o e w (zln G blks nu w ⟨[],.ptr id 0,[(id,.cells T cs)]⟩):=by
 obtain ⟨nu',h1,h2,h3⟩:=h.alloc (T:=T) hf (zaaj hx hc)
 refine Does.value (v:=.pointer (some ⟨w.heap.size,0,none⟩)) (w':=w.alloc (.cells (e x).cells T)) ?_ ⟨nu',?_,?_,.ptr h3⟩
 ·simp[execOp,ho,Instr.box,size_push]
 ·simpa[upd] using h1
 ·simpa[upd] using h2
omit h in
theorem zaq (b off j:Nat):(⟨b,off,none⟩:Addr).add j=⟨b,off+j,none⟩:=by
 unfold Addr.add;split<;>simp_all
omit h in
theorem zem {T:TypeId} {t:Bool} (ht:zr P (isAgg T)=some t) {n:Nat} (hn:zr P (sizeOf T)=some n) (a:Addr) (vs:List Value)
  (hl:vs.length=n) (h1:t=false→n=1) (hc:∀ j v,vs[j]?=some v→w.cell? (a.add j)=some v) :
  (loadVar T a).run P w=.ok (if t then .agg vs.toArray else vs.getD 0 undef) w:=by
 cases t with
 | true =>
  have:=run_loadCells_list (P:=P) w a vs hc
  rw[hl] at this
  simp[loadVar,zq ht w,zq hn w,this]
 | false =>
  have hn1:=h1 rfl
  match vs,hl,hc with
  | [v],_,hc =>
   have:=hc 0 v rfl
   have ha:a.add 0=a:=by simp[Addr.add]
   rw[ha] at this
   simp[loadVar,zq ht w,this]
  | [],hl,_=>simp at hl;omega
  | _::_::_,hl,_=>simp at hl;omega
def zq3 (t:Bool) (cs:List AV):AV:=if t then .agg cs else cs.getD 0 .any
omit h in
theorem zkr {C:Cx} {t:Bool} {cs:List AV} {vs:List Value} (hr:Rds C cs vs) (h1:t=false→cs.length=1):Rd C (zq3 t cs) (if t then .agg vs.toArray else vs.getD 0 undef):=by
 cases t with
 | true=>exact .agg hr.1 hr.2
 | false=>exact hr.2 0 (by have:=h1 rfl;omega)
theorem zaf2 {o:Oper} {T:TypeId} {x:Operand} {e:Operand→Value} {j off:Nat} {U:TypeId} {cs:List AV} {t:Bool} {n:Nat} (ho:o.op=.load T x)
  (hx:Rd (cx G blks nu w) (.ptr j off) (e x)) (hb:blks.getD j .dead=.cells U cs) (ht:zr P (isAgg T)=some t) (hn:zr P (sizeOf T)=some n)
  (h1:t=false→n=1) (hl:((cs.drop off).take n).length=n):Does P o e w (zln G blks nu w ⟨[],zq3 t ((cs.drop off).take n),[]⟩):=by
 have hk:=h.ok j
 rw[hb] at hk
 obtain ⟨b,vs,e1,e2,e3⟩:=hk
 generalize hv:e x=v at hx
 cases hx with
 | @ptr _ _ b' e4 =>
  have:b=b':=by have:=e1.symm.trans e4;simpa using this
  subst this
  have hr:Rds (cx G blks nu w) ((cs.drop off).take n) ((vs.drop off).take n):=(e3.drop off).take n
  have hrun:=zem (w:=w) ht hn ⟨b,off,none⟩ ((vs.drop off).take n) (by rw[hr.1];exact hl) h1 (fun i v hi=>by
   rw[zaq,cell_of_row w b (off+i) vs.toArray U (0,0) e2]
   have hin:i < n:=by have:=(List.getElem?_eq_some_iff.1 hi).1;simp at this;omega
   rw[List.getElem?_take_of_lt hin,List.getElem?_drop] at hi
   simpa using hi)
  refine Does.value (v:=if t then .agg ((vs.drop off).take n).toArray else ((vs.drop off).take n).getD 0 undef) (w':=w) ?_ (za8 h (zkr hr (fun ht=>by rw[hl];exact h1 ht)))
  simp[execOp,ho,Instr.loadAt,Instr.sureAddr,hv,hrun]
theorem zacv {o:Oper} {T:TypeId} {x:Operand} {e:Operand→Value} {s:Sl} {k off:Nat} {t:Bool} {n:Nat} (ho:o.op=.load T x)
  (hx:Rd (cx G blks nu w) (.eptr s k off) (e x)) (ht:zr P (isAgg T)=some t) (hn:zr P (sizeOf T)=some n)
  (h1:t=false→n=1) (hl:(((s.row k).drop off).take n).length=n):Does P o e w (zln G blks nu w ⟨[],zq3 t (((s.row k).drop off).take n),[]⟩):=by
 generalize hv:e x=v at hx
 cases hx with
 | eptr a g hs hL hcell hrd =>
  have hlen:off+n≤s.sz∨n=0:=by
   have:=hl
   rw[List.length_take,List.length_drop,Sl.row_length] at this
   omega
  have hr:Rds (cx G blks nu w) (((s.row k).drop off).take n) ((List.range n).map g):=by
   refine Rds.of_get (by rw[hl];simp) (fun i c v e1 e2=>?_)
   have hin:i < n:=by have:=(List.getElem?_eq_some_iff.1 e2).1;simpa using this
   have e3:(List.range n)[i]?=some i:=by rw[List.getElem?_range hin]
   rw[List.getElem?_map,e3] at e2
   simp only[Option.map_some,yy1] at e2
   subst e2
   have:=hrd i (by omega)
   rw[List.getElem?_take_of_lt hin,List.getElem?_drop] at e1
   unfold Sl.cell at this
   rw[yy0,e1] at this
   exact this
  have hrun:=zem (w:=w) ht hn a ((List.range n).map g) (by simp) h1 (fun i v hi=>by
   have hin:i < n:=by have:=(List.getElem?_eq_some_iff.1 hi).1;simpa using this
   have e3:(List.range n)[i]?=some i:=by rw[List.getElem?_range hin]
   rw[List.getElem?_map,e3] at hi
   simp only[Option.map_some,yy1] at hi
   subst hi
   exact hcell i (by omega))
  refine Does.value (v:=if t then .agg ((List.range n).map g).toArray else ((List.range n).map g).getD 0 undef) (w':=w) ?_ (za8 h (zkr hr (fun ht=>by rw[hl];exact h1 ht)))
  simp only[execOp,ho,Instr.loadAt,Instr.sureAddr,hv,Sem.run_bind,Sem.run_pure',hrun,Result.andThen_ok,Sem.run_pure,bind_pure_comp,Sem.run_map]
def one (blks:Nat→Blk):AV→Bool
 | .val v=>v.oneCell'
 | .sl _=>true
 | .ptr _ _=>true
 | .eptr _ _ _=>true
 | .pix _ _ _ _=>true
 | .rptr _ _ _ _=>true
 | .win _ _ _=>true
 | .fn _ _=>true
 | .own j=>match blks j with
  | .rows _ _=>true
  | .pub _=>true
  | _=>false
 | _=>false
theorem zah5 {x:AV} {v:Value} (hx:Rd (cx G blks nu w) x v) (h1:one (fun j=>blks.getD j .dead) x=true):v.oneCell'=true:=by
 cases hx<;>try (first | rfl | (simp[one] at h1;done))
 case val=>exact h1
 case own j hn =>
  have hk:=h.ok j
  simp only[one] at h1
  generalize blks.getD j .dead=B at h1 hk
  cases B<;>simp at h1
  case rows E s =>
   obtain ⟨u,vs,e1,e2,_⟩:=hk
   have:=hn.symm.trans e1
   simp at this;subst this
   rcases e2.2 with ⟨e3,_⟩ | ⟨g,cap,cur,e3,_⟩<;>rw[e3]<;>rfl
  case pub s =>
   obtain ⟨u,e1,e2⟩:=hk
   have:=hn.symm.trans e1
   simp at this;subst this
   cases e2<;>rfl
def zap:AV→List AV
 | .agg cs=>cs
 | .val v=>v.cells.toList.map .val
 | x=>[x]
theorem z3c {x:AV} {v:Value} (hx:Rd (cx G blks nu w) x v) (h1:(zap x).all (one fun j=>blks.getD j .dead)=true) :
  Rds (cx G blks nu w) (zap x) v.cells.toList∧∀ u,u∈v.cells.toList→u.oneCell'=true:=by
 have main:Rds (cx G blks nu w) (zap x) v.cells.toList:=by
  have hone:∀ (hx:Rd (cx G blks nu w) x v),zap x=[x]→v.oneCell'=true→Rds (cx G blks nu w) (zap x) v.cells.toList:=by
   intro hx hc hv
   rw[hc]
   have:v.cells=#[v]:=by cases v<;>first | rfl | (simp[Value.oneCell'] at hv)
   rw[this]
   exact .cons hx .nil
  cases hx with
  | val=>exact z4y _ _
  | agg hl hh=>exact ⟨by simpa[Value.cells,zap] using hl,by simpa[Value.cells,zap] using hh⟩
  | any=>simp[zap,one] at h1
  | tup hl hh=>simp[zap,one] at h1
  | fn hl hh=>exact hone (.fn hl hh) rfl rfl
  | slnil h0=>exact hone (.slnil h0) rfl rfl
  | sl a cap g hm hc hcell hL hrd=>exact hone (.sl a cap g hm hc hcell hL hrd) rfl rfl
  | own hn=>exact hone (.own hn) rfl (zah5 h (.own hn) (by simpa[zap] using h1))
  | ptr hn=>exact hone (.ptr hn) rfl rfl
  | eptr a g hs hL hcell hrd=>exact hone (.eptr a g hs hL hcell hrd) rfl rfl
  | pix hn hi=>exact hone (.pix hn hi) rfl rfl
  | rptr hn hi=>exact hone (.rptr hn hi) rfl rfl
  | rpix hn hi hb=>simp[zap,one] at h1
  | iface hn=>simp[zap,one] at h1
  | win hn=>exact hone (.win hn) rfl rfl
 refine ⟨main,fun u hu=>?_⟩
 obtain ⟨i,hi,rfl⟩:=List.getElem_of_mem hu
 have hi':i < (zap x).length:=by rw[← main.1];exact hi
 have hc:=List.all_eq_true.1 h1 (zap x)[i] (List.getElem_mem hi')
 obtain ⟨u,hu,hr⟩:=main.get i _ (yy3 hi')
 rw[yy3 hi] at hu
 cases hu
 exact zah5 h hr hc
theorem zan6 {o:Oper} {T:TypeId} {x y:Operand} {e:Operand→Value} {j off:Nat} {U:TypeId} {cs:List AV} {c:AV} {n:Nat} (ho:o.op=.store T x y)
  (hx:Rd (cx G blks nu w) (.ptr j off) (e x)) (hy:Rd (cx G blks nu w) c (e y)) (hb:blks.getD j .dead=.cells U cs) (hn:zr P (sizeOf T)=some n)
  (hc:(zap c).all (one fun j=>blks.getD j .dead)=true) (hl:(zap c).length=n) (hfit:off+n≤cs.length) :
  Does P o e w (zln G blks nu w ⟨[],.any,[(j,.cells U (cs.take off++zap c++cs.drop (off+n)))]⟩):=by
 obtain ⟨k1,k2⟩:=z3c h hy hc
 have hk:=h.ok j
 rw[hb] at hk
 obtain ⟨b,vs,e1,e2,e3⟩:=hk
 generalize hv:e x=v at hx
 cases hx with
 | @ptr _ _ b' e4 =>
  have:b=b':=by have:=e1.symm.trans e4;simpa using this
  subst this
  have hlen:(e y).cells.toList.length=n:=by rw[k1.1];exact hl
  have hst:=run_storeCells_at P b off U (e y).cells.toList 0 vs.toArray w e2 (by simp only[Nat.add_zero,List.size_toArray];rw[hlen,e3.1];exact hfit) k2
  have hr:Rds (cx G blks nu w) (cs.take off++zap c++cs.drop (off+n)) (vs.take off++(e y).cells.toList++vs.drop (off+n)):=((e3.take off).append k1).append (e3.drop _)
  simp only[Nat.add_zero,hlen] at hst
  obtain ⟨m1,m2⟩:=h.write (w':=w.setRow b (vs.take off++(e y).cells.toList++vs.drop (off+n)).toArray) hb e1 hr (fun k hk=>setRow_other w b k _ hk) (setRow_heap w b _ _ U _ e2) (by simp[World.setRow]) rfl rfl rfl
  refine Does.skip (w':=w.setRow b (vs.take off++(e y).cells.toList++vs.drop (off+n)).toArray) ?_ ⟨nu,by simpa[upd] using m1,by simpa[upd] using m2,.any⟩
  have hsz:((e y).cells.size≠n)=False:=by simp[← hlen]
  simp only[execOp,ho,Instr.storeAt,Instr.sureAddr,hv,Sem.run_bind,Sem.run_pure',Sem.run_pure,Result.andThen_ok,storeVar,zq hn w,hsz,if_false,hst,Sem.run_ite]
def zw5 (P:Program) (T:TypeId) (f:Nat):Option (Nat×TypeId) :=
 match P.underlying T with
 | some (.struct fs)=>match fs[f]? with
  | some fd=>match zr P (sizeOf fd.type) with
   | some (_+1)=>some (fd.offset,fd.type)
   | _=>none
  | none=>none
 | _=>none
omit h in
theorem z4z {T:TypeId} {f:Nat} {d:Nat×TypeId} (hd:zw5 P T f=some d) :
  ∃ fs fd n,P.underlying T=some (.struct fs)∧fs[f]?=some fd∧zr P (sizeOf fd.type)=some (n+1)∧d=(fd.offset,fd.type):=by
 unfold zw5 at hd
 split at hd
 ·rename_i fs hu
  split at hd
  ·rename_i fd hf
   split at hd
   ·rename_i n hn
    exact ⟨fs,fd,n,hu,hf,hn,by simpa using hd.symm⟩
   ·cases hd
  ·cases hd
 ·cases hd
omit h in
theorem zakk {T:TypeId} {f:Nat} {d:Nat×TypeId} (hd:zw5 P T f=some d) (a:Addr) :
  (Instr.fieldAt T (.pointer (some a)) f).run P w=.ok (.pointer (some (a.add d.1))) w:=by
 obtain ⟨fs,fd,n,hu,hf,hn,rfl⟩:=z4z hd
 simp[Instr.fieldAt,run_underlying hu,hf,Instr.sureAddr,fieldPlace,zq hn w]
omit h in
theorem zakl (a:Addr) (ha:a.spot=none) (m n:Nat):(a.add m).add n=a.add (m+n):=by
 obtain ⟨b,o,s⟩:=a
 simp only at ha
 subst ha
 rw[zaq,zaq,zaq,Nat.add_assoc]
omit h in
theorem zamk (a:Addr) (ha:a.spot=none) (m:Nat):(a.add m).spot=none:=by
 obtain ⟨b,o,s⟩:=a
 simp only at ha
 subst ha
 rw[zaq]
omit h in
theorem Rd.eptr_add {C:Cx} {s:Sl} {k off n:Nat} {a:Addr} (hx:Rd C (.eptr s k off) (.pointer (some a))):Rd C (.eptr s k (off+n)) (.pointer (some (a.add n))):=by
 cases hx with
 | eptr _ g hs hL hcell hrd =>
  refine .eptr (a.add n) (fun c=>g (n+c)) (zamk a hs n) (fun h0=>by rw[zau];exact hL (by omega)) (fun c hc=>?_) (fun c hc=>?_)
  ·rw[zakl a hs];exact hcell (n+c) (by omega)
  ·have:=hrd (n+c) (by omega)
   rwa [← Nat.add_assoc] at this
def zad4 (n:Nat):AV→Option AV
 | .ptr j off=>some (.ptr j (off+n))
 | .eptr s k off=>some (.eptr s k (off+n))
 | .pix j b ix off=>some (.pix j b ix (off+n))
 | .rptr j sz off i=>some (.rptr j sz (off+n) i)
 | .rpix j sz off i ix=>some (.rpix j sz (off+n) i ix)
 | _=>none
omit h in
theorem zah6 {C:Cx} {n:Nat} {c c':AV} {v:Value} (hc:zad4 n c=some c') (hx:Rd C c v):∃ a,v=.pointer (some a)∧Rd C c' (.pointer (some (a.add n))):=by
 cases c<;>simp only[zad4,yy1,reduceCtorEq] at hc<;>subst hc
 case ptr j off =>
  cases hx with
  | @ptr _ _ b hn=>exact ⟨_,rfl,by rw[zaq];exact .ptr hn⟩
 case eptr s k off =>
  have hx':=hx
  cases hx with
  | eptr a g hs hL hcell hrd=>exact ⟨a,rfl,hx'.eptr_add⟩
 case pix j b ix off =>
  cases hx with
  | pix hn hi=>exact ⟨_,rfl,by rw[zaq,Nat.add_assoc];exact .pix hn hi⟩
 case rptr j sz off i =>
  cases hx with
  | rptr hn hi=>exact ⟨_,rfl,by rw[zaq,Nat.add_assoc];exact .rptr hn hi⟩
 case rpix j sz off i ix =>
  cases hx with
  | @rpix _ _ _ g m cap _ _ hn hi hb=>exact ⟨_,rfl,by rw[zaq,show i.toNat*sz+off+ixN ix+n=i.toNat*sz+(off+n)+ixN ix by omega];exact .rpix hn hi hb⟩
theorem zacw {o:Oper} {T:TypeId} {x:Operand} {f:Nat} {e:Operand→Value} {c c':AV} {d:Nat×TypeId} (ho:o.op=.fieldAddr T x f)
  (hx:Rd (cx G blks nu w) c (e x)) (hd:zw5 P T f=some d) (hc:zad4 d.1 c=some c'):Does P o e w (zln G blks nu w ⟨[],c',[]⟩):=by
 obtain ⟨a,ha,hr⟩:=zah6 hc hx
 refine Does.value (v:=.pointer (some (a.add d.1))) (w':=w) ?_ (za8 h hr)
 simp[execOp,ho,ha,zakk hd]
theorem zah7 {o:Oper} {x:Operand} {e:Operand→Value} {c:AV} (ho:o.op=.move x∨o.op=.assign x) (hx:Rd (cx G blks nu w) c (e x)) :
  Does P o e w (zln G blks nu w ⟨[],c,[]⟩):=by
 refine Does.value (v:=e x) (w':=w) ?_ (za8 h hx)
 rcases ho with ho | ho<;>simp[execOp,ho]
theorem zaf3 {o:Oper} {x:Operand} {e:Operand→Value} {c:AV} (ho:o.op=.nilCheck x) (hx:Rd (cx G blks nu w) c (e x))
  (hc:(zad4 0 c).isSome=true):Does P o e w (zln G blks nu w ⟨[],c,[]⟩):=by
 obtain ⟨c',hc'⟩:=Option.isSome_iff_exists.1 hc
 obtain ⟨a,ha,_⟩:=zah6 hc' hx
 refine Does.value (v:=e x) (w':=w) ?_ (za8 h hx)
 simp[execOp,ho,ha]
theorem zah8 {o:Oper} {x:Operand} {i:Nat} {e:Operand→Value} {cs:List AV} {c:AV} (ho:o.op=.extract x i) (hx:Rd (cx G blks nu w) (.tup cs) (e x)) (hc:cs[i]?=some c) :
  Does P o e w (zln G blks nu w ⟨[],c,[]⟩):=by
 generalize hv:e x=v at hx
 cases hx with
 | @tup _ vs hl hh =>
  obtain ⟨u,hu,hr⟩:=Rds.get ⟨hl,hh⟩ i c hc
  refine Does.value (v:=u) (w':=w) ?_ (za8 h hr)
  simp[execOp,ho,hv,Instr.extract,hu]
theorem zan7 {o:Oper} {T:TypeId} {x:Operand} {f:Nat} {e:Operand→Value} {cs:List AV} {d:Nat×TypeId} {t:Bool} {n:Nat} (ho:o.op=.field T x f)
  (hx:Rd (cx G blks nu w) (.agg cs) (e x)) (hd:zw5 P T f=some d) (ht:zr P (isAgg d.2)=some t) (hn:zr P (sizeOf d.2)=some n)
  (h1:t=false→n=1) (hl:((cs.drop d.1).take n).length=n):Does P o e w (zln G blks nu w ⟨[],zq3 t ((cs.drop d.1).take n),[]⟩):=by
 generalize hv:e x=v at hx
 cases hx with
 | @agg _ vs hvl hh =>
  have hr:Rds (cx G blks nu w) ((cs.drop d.1).take n) ((vs.drop d.1).take n):=((Rds.mk hvl hh).drop d.1).take n
  obtain ⟨fs,fd,m,hu,hf,hm,rfl⟩:=z4z hd
  refine Does.value (v:=if t then .agg ((vs.drop fd.offset).take n).toArray else ((vs.drop fd.offset).take n).getD 0 undef) (w':=w) ?_ (za8 h (zkr hr (fun ht=>by rw[hl];exact h1 ht)))
  cases t with
  | true =>
   have e1:vs.toArray.extract fd.offset (fd.offset+n)=((vs.drop fd.offset).take n).toArray:=by
    simp[List.extract_eq_take_drop]
   simp[execOp,ho,hv,Instr.field,run_underlying hu,hf,asAgg,part,zq ht w,zq hn w,e1]
  | false =>
   have hn1:=h1 rfl
   subst hn1
   have e1:∃ u,vs.toArray[fd.offset]?=some u∧((vs.drop fd.offset).take 1).getD 0 undef=u:=by
    have hlt:fd.offset < vs.length:=by have:=hr.1;rw[hl] at this;simp at this;omega
    refine ⟨vs[fd.offset],by simp[hlt],?_⟩
    rw[yy0,List.getElem?_take_of_lt (by omega),List.getElem?_drop]
    simp[hlt]
   obtain ⟨u,e2,e3⟩:=e1
   simp only[execOp,ho,hv,Instr.field,run_underlying hu,hf,asAgg,part,zq ht w,e2,e3,Sem.run_bind,Result.andThen_ok,Sem.run_pure,Bool.false_eq_true,if_false]
omit h in
theorem zad5 (off:Nat):∀ (xs:List Value) (k:Nat) (cur:Array Value),off+k+xs.length≤cur.size →
  ((xs.zipIdx k).foldl (fun (cs:Array Value) (p:Value×Nat)=>cs.setIfInBounds (off+p.2) p.1) cur).toList=cur.toList.take (off+k)++xs++cur.toList.drop (off+k+xs.length)
 | [],k,cur,_=>by simp
 | x::xs,k,cur,hl=>by
  simp only[List.length_cons] at hl
  rw[List.zipIdx_cons,List.foldl_cons,zad5 off xs (k+1) _ (by simp only[Array.size_setIfInBounds];omega)]
  have hlt:off+k < cur.toList.length:=by simp;omega
  simp only[Array.toList_setIfInBounds,List.length_cons]
  have e1:(cur.toList.set (off+k) x).take (off+(k+1))=cur.toList.take (off+k)++[x]:=by
   rw[← Nat.add_assoc,List.take_succ_eq_append_getElem (by simpa using hlt),List.getElem_set_self,List.take_set_of_le (Nat.le_refl _)]
  have e2:(cur.toList.set (off+k) x).drop (off+(k+1)+xs.length)=cur.toList.drop (off+k+(xs.length+1)):=by
   rw[List.drop_set_of_lt (by omega)];congr 1;omega
  rw[e1,e2];simp
def zw6 (place:Nat→Option (Nat×Nat)):List AV→List (Nat×AV)→Option (List AV)
 | cs,[]=>some cs
 | cs,(i,x)::rest=>match place i,cellsOf x with
  | some (off,n),some ys=>if ys.length=n∧off+n≤cs.length then zw6 place (cs.take off++ys++cs.drop (off+n)) rest else none
  | _,_=>none
omit h in
theorem zw7 {C:Cx} {place:Nat→Option (Nat×Nat)}:∀ (avs:List (Nat×AV)) (parts:List (Nat×Value)) (cs cs':List AV) (cells:Array Value),
  parts.length=avs.length→(∀ (i:Nat) (p:Nat×AV) (q:Nat×Value),avs[i]?=some p→parts[i]?=some q→p.1=q.1∧Rd C p.2 q.2)→Rds C cs cells.toList→zw6 place cs avs=some cs' →
  ∃ cells',Instr.fill place cells parts=some cells'∧Rds C cs' cells'.toList
 | [],[],cs,cs',cells,_,_,hr,hf=>by
  simp only[zw6,yy1] at hf;subst hf
  exact ⟨cells,rfl,hr⟩
 | (i,x)::avs,(k,v)::parts,cs,cs',cells,hlen,hp,hr,hf=>by
  obtain ⟨e1,e2⟩:=hp 0 _ _ rfl rfl
  simp only at e1 e2
  subst e1
  simp only[zw6] at hf
  split at hf
  ·rename_i off n ys h1 h2
   split at hf
   ·rename_i h3
    have hy:=zaaj e2 h2
    have hn:v.cells.size=n:=by have:=hy.1;simp at this;omega
    have hcl:cells.size=cs.length:=by have:=hr.1;simpa using this
    have hf2:=zad5 off v.cells.toList 0 cells (by simp;omega)
    obtain ⟨cells',h4,h5⟩:=zw7 avs parts _ cs' (v.cells.zipIdx.foldl (fun cs (p:Value×Nat)=>cs.setIfInBounds (off+p.2) p.1) cells) (by simpa using hlen)
     (fun i p q hi hj=>hp (i+1) p q (by simpa using hi) (by simpa using hj)) (by
      rw[← Array.foldl_toList,Array.toList_zipIdx,hf2]
      simp only[Nat.add_zero,Array.length_toList,hn]
      exact ((hr.take off).append hy).append (hr.drop _)) hf
    refine ⟨cells',?_,h5⟩
    simp only[Instr.fill,h1,hn]
    rw[if_neg]
    ·exact h4
    ·simp;omega
   ·cases hf
  ·cases hf
 | [],_::_,_,_,_,hlen,_,_,_=>by simp at hlen
 | _::_,[],_,_,_,hlen,_,_,_=>by simp at hlen
def zaml (P:Program) (T:TypeId):Option ((Nat→Option (Nat×Nat))×Value) :=
 match P.info? T,P.underlying T with
 | some it,some (.array _ e)=>match it.zero,P.info? e with
  | some z,some ie=>some (fun i=>some (i*ie.size,ie.size),z)
  | _,_=>none
 | some it,some (.struct fields)=>match it.zero,fields.toList.mapM (fun f=>(P.info? f.type).map fun i=>(f.offset,i.size)) with
  | some z,some pl=>some ((pl.toArray[·]?),z)
  | _,_=>none
 | _,_=>none
omit h in
theorem zah9 {T:TypeId} {pl:Nat→Option (Nat×Nat)} {z:Value} (hp:zaml P T=some (pl,z)) (parts:List (Nat×Value)):P.built T parts=Instr.fill pl z.cells parts:=by
 unfold zaml at hp
 unfold Program.built
 split at hp
 ·rename_i it n e h1 h2
  simp only[h1,h2]
  split at hp
  ·rename_i z' ie h3 h4
   simp only[yy1,Prod.mk.injEq] at hp
   obtain ⟨rfl,rfl⟩:=hp
   simp only[h3,h4]
  ·cases hp
 ·rename_i it fs h1 h2
  simp only[h1,h2]
  split at hp
  ·rename_i z' ie h3 h4
   simp only[yy1,Prod.mk.injEq] at hp
   obtain ⟨rfl,rfl⟩:=hp
   simp only[h3,h4]
  ·cases hp
 ·cases hp
theorem zan8 {o:Oper} {T:TypeId} {parts:Array (Nat×Operand)} {e:Operand→Value} {g:Operand→AV} {pl:Nat→Option (Nat×Nat)} {z:Value} {cs:List AV} (ho:o.op=.build T parts)
  (hg:∀ x,Rd (cx G blks nu w) (g x) (e x)) (hp:zaml P T=some (pl,z)) (hf:zw6 pl (z.cells.toList.map .val) (parts.toList.map fun p=>(p.1,g p.2))=some cs) :
  Does P o e w (zln G blks nu w ⟨[],.agg cs,[]⟩):=by
 obtain ⟨cells,h1,h2⟩:=zw7 (C:=cx G blks nu w) (parts.toList.map fun p=>(p.1,g p.2)) (parts.toList.map fun p=>(p.1,e p.2)) _ cs z.cells (by simp)
  (fun i p q hi hj=>by
   rw[List.getElem?_map] at hi hj
   cases hk:parts.toList[i]? with
   | none=>rw[hk] at hi;cases hi
   | some r =>
    rw[hk] at hi hj
    simp only[Option.map_some,yy1] at hi hj
    subst hi;subst hj
    exact ⟨rfl,hg _⟩) (z4y _ _) hf
 have hb:P.built T (parts.map fun (i,x)=>(i,e x)).toList=some cells:=by
  rw[zah9 hp];simpa using h1
 refine Does.value (v:=.agg cells) (w':=w) ?_ (za8 h ?_)
 ·simp only[execOp,ho,Sem.run_bind,run_build w T _ cells hb,Result.andThen_ok,Sem.run_pure]
 ·have:Rd (cx G blks nu w) (.agg cs) (.agg cells.toList.toArray):=.agg h2.1 h2.2
  simpa using this
end sound
