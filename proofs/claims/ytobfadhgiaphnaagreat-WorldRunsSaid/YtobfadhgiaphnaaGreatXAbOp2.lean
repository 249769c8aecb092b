/-
  The walk over abstract states.
-/
import Derived.Test.YtobfadhgiaphnaaGreatXAbOp
namespace Go.Proofs.YtobfadhgiaphnaaGreat.Ab
open Go Go.RowKit
set_option linter.unusedSimpArgs false
set_option linter.unusedVariables false
section sound
variable {P:Program} {G:Gl} {blks:List Blk} {nu:Nat→Option Value} {w:World} (h:MInv G blks nu w)
include h
theorem zan3 {o:Oper} {op:BinOp} {T U:TypeId} {x y:Operand} {e:Operand→Value} {u v r:Value} (ho:o.op=.binOp op T x y U)
  (hx:Rd (cx G blks nu w) (.val u) (e x)) (hy:Rd (cx G blks nu w) (.val v) (e y))
  (hr:zr P (do eqGuard op T x y u v;binOp op T u v)=some r):Does P o e w (zln G blks nu w ⟨[],.val r,[]⟩):=by
 generalize hv:e x=a at hx
 generalize hw:e y=b at hy
 cases hx;cases hy
 refine Does.value (v:=r) (w':=w) ?_ (za8 h .val)
 have:=zq hr w
 simp only[execOp,ho,hv,hw]
 rw[Sem.run_bind,this];rfl
theorem zaki {o:Oper} {T U:TypeId} {x y:Operand} {e:Operand→Value} {u v:ByteArray} (ho:o.op=.binOp .add T x y U)
  (hx:Rd (cx G blks nu w) (.s u) (e x)) (hy:Rd (cx G blks nu w) (.s v) (e y)) (hr:u.size+v.size≤9223372036854775807) :
  Does P o e w (zln G blks nu w ⟨[u.size+v.size≤9223372036854775807],.s (u++v),[]⟩):=by
 generalize hv:e x=a at hx
 generalize hw:e y=b at hy
 cases hx;cases hy
 refine Does.value (v:=.string (u++v)) (w':=w) ?_ ⟨nu,.refl _,h,.val⟩
 have hb:¬ (((u.size+v.size:Nat):Int) > IntKind.i64.max):=by
  have:IntKind.i64.max=9223372036854775807:=by decide
  rw[this];omega
 simp only[execOp,ho,hv,hw,eqGuard,binOp,Op.stringOp,if_neg hb]
 rfl
theorem zat2 {o:Oper} {T U:TypeId} {x y:Operand} {e:Operand→Value} {k:IntKind} {u v:Int} (ho:o.op=.binOp .quo T x y U)
  (hx:Rd (cx G blks nu w) (.val (.int k u)) (e x)) (hy:Rd (cx G blks nu w) (.val (.int k v)) (e y)) (hr:v≠0) :
  ∀ ob,Does P o e w (zln G blks nu w ⟨ob,.val (.int k (k.wrap (u.tdiv v))),[]⟩):=by
 intro ob
 generalize hv:e x=a at hx
 generalize hw:e y=b at hy
 cases hx;cases hy
 refine Does.value (v:=.int k (k.wrap (u.tdiv v))) (w':=w) ?_ ⟨nu,.refl _,h,.val⟩
 simp[execOp,ho,hv,hw,eqGuard,binOp,Op.intDiv,hr]
theorem zat3 {o:Oper} {T U:TypeId} {x y:Operand} {e:Operand→Value} {k:IntKind} {u v:Int} (ho:o.op=.binOp .rem T x y U)
  (hx:Rd (cx G blks nu w) (.val (.int k u)) (e x)) (hy:Rd (cx G blks nu w) (.val (.int k v)) (e y)) (hr:v≠0) :
  ∀ ob,Does P o e w (zln G blks nu w ⟨ob,.val (.int k (u.tmod v)),[]⟩):=by
 intro ob
 generalize hv:e x=a at hx
 generalize hw:e y=b at hy
 cases hx;cases hy
 refine Does.value (v:=.int k (u.tmod v)) (w':=w) ?_ ⟨nu,.refl _,h,.val⟩
 simp[execOp,ho,hv,hw,eqGuard,binOp,Op.intDiv,hr]
theorem zaq8 {o:Oper} {op:UnOp} {T:TypeId} {x:Operand} {e:Operand→Value} {u r:Value} (ho:o.op=.unOp op T x)
  (hx:Rd (cx G blks nu w) (.val u) (e x)) (hr:zr P (Op.unary op u)=some r):Does P o e w (zln G blks nu w ⟨[],.val r,[]⟩):=by
 generalize hv:e x=a at hx
 cases hx
 refine Does.value (v:=r) (w':=w) ?_ (za8 h .val)
 have:=zq hr w
 simp[execOp,ho,hv,this]
theorem zah3 {o:Oper} {T U:TypeId} {x:Operand} {e:Operand→Value} {u r:Value} (ho:o.op=.convert T U x)
  (hx:Rd (cx G blks nu w) (.val u) (e x)) (hr:zr P (convert T U u)=some r):Does P o e w (zln G blks nu w ⟨[],.val r,[]⟩):=by
 generalize hv:e x=a at hx
 cases hx
 refine Does.value (v:=r) (w':=w) ?_ (za8 h .val)
 have:=zq hr w
 simp[execOp,ho,hv,this]
theorem zah4 {o:Oper} {b:Builtin} {xs:Array Operand} {ats:Array TypeId} {e:Operand→Value} {us:List Value} {g:Operand→AV} {r:Value}
  (ho:o.op=.call { callee:=.builtin b,args:=xs,argTypes:=ats }) (hg:∀ x,Rd (cx G blks nu w) (g x) (e x)) (hu:xs.toList.map g=us.map .val)
  (hr:zr P (builtin b ats o.type (xs.map fun | .const _=>true | _=>false) us.toArray)=some (.value r)):Does P o e w (zln G blks nu w ⟨[],.val r,[]⟩):=by
 have he:xs.map e=us.toArray:=by
  apply Array.toList_inj.1
  simp only[Array.toList_map]
  clear hr ho
  generalize xs.toList=l at hu ⊢
  induction l generalizing us with
  | nil=>cases us<;>simp_all
  | cons x l ih =>
   cases us with
   | nil=>simp at hu
   | cons u us =>
    simp only[List.map_cons,List.cons.injEq] at hu
    have h1:=hg x
    rw[hu.1] at h1
    generalize hv:e x=a at h1
    cases h1
    simp only[List.map_cons,hv,ih hu.2]
 refine Does.value (v:=r) (w':=w) ?_ (za8 h .val)
 have:=zq hr w
 simp only[execOp,ho,resolve,he]
 rw[Sem.run_bind,Sem.run_pure,Result.andThen_ok]
 exact this
theorem zat4 {o:Oper} {x:Operand} {ats:Array TypeId} {T E:TypeId} {e:Operand→Value} {s:Sl} {c:AV}
  (ho:o.op=.call { callee:=.builtin .len,args:=#[x],argTypes:=ats }) (ha:ats[0]?=some T) (hT:P.underlying T=some (.slice E))
  (hx:Rd (cx G blks nu w) c (e x)) (hc:c=.sl s∨∃ j F,c=.own j∧(blks.getD j .dead=.rows F s∨blks.getD j .dead=.pub s)) :
  Does P o e w (zln G blks nu w ⟨[],.i s.len,[]⟩):=by
 have main:∃ a cap,e x=.slice a s.len cap:=by
  rcases hc with rfl | ⟨j,F,rfl,hj⟩
  ·generalize hv:e x=v at hx
   cases hx with
   | slnil h0=>exact ⟨none,_,by rw[h0]⟩
   | sl a cap=>exact ⟨_,_,rfl⟩
  ·generalize hv:e x=v at hx
   cases hx with
   | own hn =>
    have hk:=h.ok j
    rcases hj with hj | hj
    ·rw[hj] at hk
     obtain ⟨u,vs,e1,e2,_⟩:=hk
     have:=hn.symm.trans e1
     simp at this;subst this
     rcases e2.2 with ⟨e3,e4⟩ | ⟨g,cap,cur,e3,_⟩
     ·exact ⟨none,0,by rw[e3,e4]⟩
     ·exact ⟨_,_,e3⟩
    ·rw[hj] at hk
     obtain ⟨u,e1,e2⟩:=hk
     have:=hn.symm.trans e1
     simp at this;subst this
     cases e2 with
     | slnil h0=>exact ⟨none,_,by rw[h0]⟩
     | sl a cap=>exact ⟨_,_,rfl⟩
 obtain ⟨a,cap,hv⟩:=main
 refine Does.value (v:=.int .i64 s.len) (w':=w) ?_ (za8 h .val)
 have e1:(Builtin.len_ ats o.type #[e x]).run P w=.ok (.int .i64 s.len) w:=by
  simp[Builtin.len_,ha,hv,run_underlying hT,goInt]
 simp only[execOp,ho,resolve,List.map_toArray,List.map_cons,List.map_nil]
 rw[Sem.run_bind,Sem.run_pure,Result.andThen_ok]
 simp only[invoke,BigFrame.builtin_len,Sem.run_bind,e1,Result.andThen_ok,Sem.run_pure]
theorem z14 {o:Oper} {T E:TypeId} {x y:Operand} {e:Operand→Value} {s:Sl} {k:IntKind} {i:Int} (ho:o.op=.indexAddr T x y)
  (hx:Rd (cx G blks nu w) (.sl s) (e x)) (hy:Rd (cx G blks nu w) (.val (.int k i)) (e y)) (hT:P.underlying T=some (.slice E)) (hn:zr P (sizeOf E)=some s.sz)
  (hi:0≤i∧i < s.len):Does P o e w (zln G blks nu w ⟨[0≤i∧i < s.len],.eptr s i.toNat 0,[]⟩):=by
 generalize hv:e x=v at hx
 generalize hw:e y=b at hy
 cases hy
 cases hx with
 | slnil h0=>omega
 | sl a cap g hm hc hcell hL hrd =>
  have h0:0 < s.len:=by omega
  have hsp:a.spot=none:=by
   have h1:=hcell 0 0 h0 (zt3 s)
   simp only[Nat.zero_mul,Nat.add_zero] at h1
   have e0:a.add 0=a:=by simp[Addr.add]
   rw[e0] at h1
   unfold World.cell? at h1
   split at h1
   ·split at h1
    ·cases h1
    ·rename_i h2;simpa using h2
   ·cases h1
  refine Does.value (v:=.pointer (some (a.add (i.toNat*s.sz)))) (w':=w) ?_ ⟨nu,.refl _,h,.eptr _ (fun c=>g i.toNat c) (zamk a hsp _) (fun _=>by rw[zau];exact hL h0) (fun c hc=>?_) (fun c hc=>?_)⟩
  ·simp[execOp,ho,hv,hw,Instr.indexAt,asIntOf,run_underlying hT,hi,zq hn w]
  ·rw[zakl a hsp];exact hcell i.toNat c (by omega) (by omega)
  ·have:=hrd i.toNat c (by omega) (by omega)
   rwa [Nat.zero_add]
theorem zafy {o:Oper} {T E:TypeId} {x y:Operand} {e:Operand→Value} {j off n len:Nat} {k:IntKind} {i:Int} (ho:o.op=.indexAddr T x y)
  (hx:Rd (cx G blks nu w) (.ptr j off) (e x)) (hy:Rd (cx G blks nu w) (.val (.int k i)) (e y)) (hT:P.underlying T=some (.array len E)) (hn:zr P (sizeOf E)=some n)
  (hi:0≤i∧i < len):Does P o e w (zln G blks nu w ⟨[],.ptr j (off+i.toNat*n),[]⟩):=by
 generalize hv:e x=v at hx
 generalize hw:e y=b at hy
 cases hy
 cases hx with
 | @ptr _ _ b hb =>
  refine Does.value (v:=.pointer (some ((⟨b,off,none⟩:Addr).add (i.toNat*n)))) (w':=w) ?_ (za8 h (by rw[zaq];exact .ptr hb))
  simp[execOp,ho,hv,hw,Instr.indexAt,asIntOf,run_underlying hT,hi,Instr.sureAddr,zq hn w]
theorem zafz {o:Oper} {T E:TypeId} {x y:Operand} {e:Operand→Value} {cs:List AV} {len:Nat} {k:IntKind} {i:Int} {t:Bool} {n:Nat} (ho:o.op=.index T x y)
  (hx:Rd (cx G blks nu w) (.agg cs) (e x)) (hy:Rd (cx G blks nu w) (.val (.int k i)) (e y)) (hT:P.underlying T=some (.array len E)) (ht:zr P (isAgg E)=some t) (hn:zr P (sizeOf E)=some n)
  (hi:0≤i∧i < len) (h1:t=false→n=1) (hl:((cs.drop (i.toNat*n)).take n).length=n):Does P o e w (zln G blks nu w ⟨[],zq3 t ((cs.drop (i.toNat*n)).take n),[]⟩):=by
 generalize hv:e x=v at hx
 generalize hw:e y=b at hy
 cases hy
 cases hx with
 | @agg _ vs hvl hh =>
  have hr:Rds (cx G blks nu w) ((cs.drop (i.toNat*n)).take n) ((vs.drop (i.toNat*n)).take n):=((Rds.mk hvl hh).drop _).take n
  refine Does.value (v:=if t then .agg ((vs.drop (i.toNat*n)).take n).toArray else ((vs.drop (i.toNat*n)).take n).getD 0 undef) (w':=w) ?_ (za8 h (zkr hr (fun ht=>by rw[hl];exact h1 ht)))
  cases t with
  | true =>
   have e1:vs.toArray.extract (i.toNat*n) (i.toNat*n+n)=((vs.drop (i.toNat*n)).take n).toArray:=by
    simp[List.extract_eq_take_drop]
   simp[execOp,ho,hv,hw,Instr.index,asIntOf,run_underlying hT,hi,part,zq ht w,zq hn w,e1]
  | false =>
   have hn1:=h1 rfl
   subst hn1
   have hlt:i.toNat < vs.length:=by have:=hr.1;rw[hl] at this;simp at this;omega
   have e2:vs[i.toNat]?=some vs[i.toNat]:=yy3 hlt
   have e3:((vs.drop (i.toNat*1)).take 1).getD 0 undef=vs[i.toNat]:=by
    rw[yy0,List.getElem?_take_of_lt (by omega),List.getElem?_drop,Nat.mul_one,Nat.add_zero,e2];rfl
   simp only[Bool.false_eq_true,if_false,e3]
   simp[execOp,ho,hv,hw,Instr.index,asIntOf,run_underlying hT,hi,part,zq ht w,zq hn w,e2]
theorem zaf0 {o:Oper} {f:FuncId} {caps:Array Operand} {e:Operand→Value} {g:Operand→AV} (ho:o.op=.makeFunc (.func f) #[] caps) (hg:∀ x,Rd (cx G blks nu w) (g x) (e x)) :
  Does P o e w (zln G blks nu w ⟨[],.fn f (caps.toList.map g),[]⟩):=by
 refine Does.value (v:=.func (.func f) #[] (caps.toList.map e).toArray) (w':=w) ?_ (za8 h (.fn (by simp) (fun i hi=>?_)))
 ·have e1:Array.map e caps=(List.map e caps.toList).toArray:=by rw[← Array.toList_map]
  simp[execOp,ho,Instr.makeFunc,e1]
 ·have hi':i < caps.toList.length:=by simpa using hi
  rw[yy0,yy0,List.getElem?_map,List.getElem?_map,yy3 hi']
  exact hg _
end sound
def zaf1 (P:Program) (f:FuncId):Bool :=
 match P.funcs[f]? with
 | some fn => fn.body.isSome && !(fn.name == "runtime.NumGoroutine")
 | none=>false
def ze (P:Program) (f:FuncId) (F:Spec):Prop :=
 ∀ (G:Gl) (blks:List Blk) (nu:Nat→Option Value) (w:World),MInv G blks nu w→∀ (args:List AV) (vs:List Value),Rds (cx G blks nu w) args vs →
  ∀ bk:Nat→Blk,(∀ j,bk j=blks.getD j .dead∨bk j=.dead)→∀ id r,F args bk id=some r→z15 r.obl→Calls P f vs.toArray w fun x w'=>∃ v,x=.returned v∧zln G blks nu w r v w'
theorem zaq9 {P:Program} {G:Gl} {blks:List Blk} {nu:Nat→Option Value} {w:World} (h:MInv G blks nu w) {o:Oper} {y:Operand} {xs:Array Operand} {ats:Array TypeId} {e:Operand→Value} {g:Operand→AV}
  {f:FuncId} {caps:List AV} {F:Spec} {r:Res} {bk:Nat→Blk} {id:Nat} (hbk:∀ j,bk j=blks.getD j .dead∨bk j=.dead)
  (ho:o.op=.call { callee:=.value y,args:=xs,argTypes:=ats }) (hg:∀ x,Rd (cx G blks nu w) (g x) (e x)) (hy:g y=.fn f caps) (hf:zaf1 P f=true) (hF:ze P f F)
  (hr:F (xs.toList.map g++caps) bk id=some r) (hobl:z15 r.obl):Does P o e w (zln G blks nu w r):=by
 have h1:=hg y
 rw[hy] at h1
 generalize hv:e y=v at h1
 cases h1 with
 | @fn _ _ vs hl hh =>
  have hargs:Rds (cx G blks nu w) (xs.toList.map g++caps) (xs.toList.map e++vs):=by
   refine Rds.append (Rds.of_get (by simp) (fun i c u h1 h2=>?_)) (Rds.mk hl hh)
   rw[List.getElem?_map] at h1 h2
   cases hk:xs.toList[i]? with
   | none=>rw[hk] at h1;cases h1
   | some z =>
    rw[hk] at h1 h2
    simp only[Option.map_some,yy1] at h1 h2
    subst h1;subst h2
    exact hg z
  refine Does.enter (w':=w) ?_ (hF G blks nu w h _ _ hargs bk hbk id r hr hobl)
  unfold zaf1 at hf
  split at hf
  ·rename_i fn hfn
   simp only[yy7,Bool.not_eq_true'] at hf
   have hn:fn.body.isNone=false:=by rw[Option.isNone_eq_false_iff];exact hf.1
   have hne : ¬ fn.name = "runtime.NumGoroutine" := by simpa using hf.2
   have hnb:¬ fn.body=none:=by intro e;rw[e] at hn;cases hn
   simp[execOp,ho,resolve,hv,Deferred.ofValue,invoke,callFunc,hfn,hne,hnb]
  ·cases hf
