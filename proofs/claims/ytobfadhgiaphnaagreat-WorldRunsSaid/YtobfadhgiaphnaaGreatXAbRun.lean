/-
  The walk over abstract states.
-/
import Derived.Test.YtobfadhgiaphnaaGreatXAbEq
import Derived.Test.YtobfadhgiaphnaaGreatXAbOwnRow
import Derived.Laws.Cover3
import Derived.Laws.Pointers
import Derived.Orders
namespace Go.Proofs.YtobfadhgiaphnaaGreat.Ab
open Go Go.RowKit
set_option linter.unusedSimpArgs false
set_option linter.unusedVariables false
def z23 (t:Bool) (n:Nat) (l:List AV):Option Res :=
 if (l.take n).length=n∧(t=true∨n=1) then some ⟨[],zq3 t (l.take n),[]⟩ else none
def vals:List AV→Option (List Value)
 | []=>some []
 | .val v::l=>(vals l).map (v::·)
 | _=>none
theorem zahz:∀ (l:List AV) (us:List Value),vals l=some us→l=us.map .val
 | [],us,h=>by simp only[vals,yy1] at h;subst h;rfl
 | x::l,us,h=>by
  cases x<;>simp only[vals,reduceCtorEq] at h
  case val v =>
   cases hr:vals l with
   | none=>rw[hr] at h;cases h
   | some us' =>
    rw[hr] at h
    simp only[Option.map_some,yy1] at h
    subst h
    simp[zahz l us' hr]
def slOf (bk:Nat→Blk):AV→Option Sl
 | .sl s=>some s
 | .own j=>match bk j with
  | .rows _ s=>some s
  | .pub s=>some s
  | _=>none
 | _=>none
structure Env where
 P:Program
 sp:FuncId→Option Spec
 pn:Bool
def zafm (V:Env) (op:BinOp) (T:TypeId) (x y:Operand) (u v:Value):Option Res :=
 match op,u,v with
 | .add,.string a,.string b=>some ⟨[a.size+b.size≤9223372036854775807],.s (a++b),[]⟩
 | .quo,.int k a,.int k' b=>if k=k' then some ⟨[b≠0],.val (.int k (k.wrap (a.tdiv b))),[]⟩ else none
 | .rem,.int k a,.int k' b=>if k=k' then some ⟨[b≠0],.val (.int k (a.tmod b)),[]⟩ else none
 | .shl,.int k a,.int _ b=>some ⟨[0≤b],.val (.int k (k.wrap (a*2 ^ (min b.toNat k.bits)))),[]⟩
 | .shr,.int k a,.int _ b=>some ⟨[0≤b],.val (.int k (a.fdiv (2 ^ (min b.toNat k.bits)))),[]⟩
 | _,_,_=>(zr V.P (do eqGuard op T x y u v;binOp op T u v)).map fun r=>⟨[],.val r,[]⟩
def zayr (P:Program) (t:TypeId):Option Sl :=
 match P.info? t with
 | some i =>
  if i.str = "[]int" then some (.ints [])
  else if i.str = "[]string" then some (.strs [])
  else if i.str = "[]uint8" then some (.bytes [])
  else if i.str = "[]api.Power" then some (.powers [])
  else if i.str = "[]api.Packet" then some (.packets [])
  else if i.str = "[]api.Wait" then some (.waits [])
  else if i.str = "[]api.Asked" then some (.asked [])
  else if i.str = "[]api.Ripe" then some (.ripes [])
  else if i.str = "[]api.Deed" then some (.deeds [])
  else if i.str = "[]api.Reply" then some (.replies [])
  else if i.str = "[]suzerainkeep.Order" then some (.orders [])
  else if i.str = "[]suzerainkeep.Carry" then some (.carries [])
  else if i.str = "[][]int" then some (.intss [])
  else none
 | none=>none
def zaae (V:Env) (id:Nat) (bk:Nat→Blk) (t:TypeId) (x y:AV):Option Res :=
 match z2y V.P t,slOf bk y,bk id with
 | some (E,sz,bytes),some u,.free=>match x with
  | .val (.slice none 0 0)=>match u.empty.app u with
   | some r=>if u.empty.sz=sz then match V.pn with
     | false=>some ⟨[(u.empty.len+u.len)*bytes≤140737488355328],.own id,[(id,.rows E r)]⟩
     | true=>some ⟨[(u.empty.len+u.len)*bytes≤140737488355328],.sl r,[(id,.pub r)]⟩
    else none
   | none=>none
  | .own j=>match bk j with
   | .rows F s=>match s.app u with
    | some r=>if F=E∧s.sz=sz∧j≠id then some ⟨[(s.len+u.len)*bytes≤140737488355328],.own id,[(j,.dead),(id,.rows E r)]⟩ else none
    | none=>none
   | _=>none
  | .win j off len=>match bk j,zayr V.P t with
   | .cells _ cs,some s0=>if s0.sz=sz∧s0.len=0∧((cs.drop off).take (len*s0.sz)).length=len*s0.sz then match zw2 len s0 ((cs.drop off).take (len*s0.sz)) with
     | some (ob,s)=>match s.app u with
      | some r=>some ⟨ob++[(s.len+u.len)*bytes≤140737488355328,0 < u.len],.own id,[(id,.rows E r)]⟩
      | none=>none
     | none=>none
    else none
   | _,_=>none
  | _=>none
 | _,_,_=>none
def zw3 (V:Env) (id:Nat) (g:Operand→AV) (bk:Nat→Blk) (t:TypeId) (len:Nat) (parts:Array (Nat×Operand)):Option Res :=
 match z2y V.P t,zayr V.P t,bk id with
 | some (E,sz,_),some s,.free=>match (V.P.info? E).bind (·.zero) with
  | some z=>if s.sz=sz∧len*s.sz≤16777216∧s.len=0 then match zw6 (fun i=>some (i*s.sz,s.sz)) ((z90 z (len*s.sz)).toList.map .val) (parts.toList.map fun p=>(p.1,g p.2)) with
    | some cs=>match zw2 len s cs with
     | some (ob,r)=>some ⟨ob,.own id,[(id,.rows E r)]⟩
     | none=>none
    | none=>none
   else none
  | none=>none
 | _,_,_=>none
def zbdz:Op→Bool
 | .indexAddr _ _ (.const _)=>true
 | .index _ _ (.const _)=>true
 | _=>false
def zaj9 (V:Env) (id:Nat) (g:Operand→AV) (bk:Nat→Blk) (o:Oper):Option Res :=
 let lit:=zbdz o.op
 match o.op with
 | .move x=>some ⟨[],g x,[]⟩
 | .assign x=>some ⟨[],g x,[]⟩
 | .alloc T=>match bk id,zr V.P (zeroValue T) with
  | .free,some z=>some ⟨[],.ptr id 0,[(id,.cells T (z.cells.toList.map .val))]⟩
  | _,_=>none
 | .box T x=>match bk id,cellsOf (g x) with
  | .free,some cs=>some ⟨[],.ptr id 0,[(id,.cells T cs)]⟩
  | _,_=>none
 | .build T parts=>match zaml V.P T with
  | some (pl,z)=>(zw6 pl (z.cells.toList.map .val) (parts.toList.map fun p=>(p.1,g p.2))).map fun cs=>⟨[],.agg cs,[]⟩
  | none=>none
 | .load T x=>match zr V.P (isAgg T),zr V.P (sizeOf T) with
  | some t,some n=>match g x with
   | .ptr j off=>match bk j with
    | .cells _ cs=>z23 t n (cs.drop off)
    | _=>none
   | .pix j b ix off=>match bk j with
    | .cells _ cs=>match zaah cs ix (b+off) n with
     | some xs=>if t=true∨n=1 then some ⟨[],zq3 t xs,[]⟩ else none
     | none=>none
    | _=>none
   | .rptr j sz off i=>match bk j with
    | .rows _ s=>if sz=s.sz then z23 t n ((s.row i.toNat).drop off) else none
    | _=>none
   | .rpix j sz off i ix=>match bk j with
    | .rows _ s=>match zaah (s.row i.toNat) ix off n with
     | some xs=>if sz=s.sz∧(t=true∨n=1) then some ⟨[],zq3 t xs,[]⟩ else none
     | none=>none
    | _=>none
   | .eptr s k off=>z23 t n ((s.row k).drop off)
   | _=>none
  | _,_=>none
 | .store T x y=>match zr V.P (sizeOf T),g x with
  | some n,.ptr j off=>match bk j with
   | .cells U cs=>if (zap (g y)).all (one bk)=true∧(zap (g y)).length=n∧off+n≤cs.length then some ⟨[],.any,[(j,.cells U (cs.take off++zap (g y)++cs.drop (off+n)))]⟩ else none
   | _=>none
  | some n,.pix j b ix off=>match bk j with
   | .cells U cs=>if (zap (g y)).all (one bk)=true∧(zap (g y)).length=n∧(zaah cs ix (b+off) n).isSome=true then match zafs ix (b+off) (zap (g y)) cs with
     | some cs'=>some ⟨[],.any,[(j,.cells U cs')]⟩
     | none=>none
    else none
   | _=>none
  | some n,.rptr j sz off i=>match bk j with
   | .rows F s=>if sz=s.sz∧(zap (g y)).all (one bk)=true∧(zap (g y)).length=n∧off+n≤s.sz then match s.put i.toNat ((s.row i.toNat).take off++zap (g y)++(s.row i.toNat).drop (off+n)) with
     | some r=>some ⟨[],.any,[(j,.rows F r)]⟩
     | none=>none
    else none
   | _=>none
  | some n,.rpix j sz off i ix=>match bk j with
   | .rows F s=>if sz=s.sz∧0 < n∧(zap (g y)).all (one bk)=true∧(zap (g y)).length=n∧(zaah (s.row i.toNat) ix off n).isSome=true then match zafs ix off (zap (g y)) (s.row i.toNat) with
     | some row=>match s.put i.toNat row with
      | some r=>some ⟨[],.any,[(j,.rows F r)]⟩
      | none=>none
     | none=>none
    else none
   | _=>none
  | _,_=>none
 | .nilCheck x=>if (zad4 0 (g x)).isSome=true then some ⟨[],g x,[]⟩ else none
 | .fieldAddr T x f=>match zw5 V.P T f with
  | some d=>match zad4 d.1 (g x) with
   | some c=>some ⟨[],c,[]⟩
   | none=>none
  | none=>none
 | .field T x f=>match zw5 V.P T f,g x with
  | some d,.agg cs=>match zr V.P (isAgg d.2),zr V.P (sizeOf d.2) with
   | some t,some n=>z23 t n (cs.drop d.1)
   | _,_=>none
  | _,_=>none
 | .indexAddr T x y=>match V.P.underlying T,g x,g y with
  | some (.slice E),.sl s,.val (.int _ i)=>match zr V.P (sizeOf E) with
   | some n=>if n=s.sz then some ⟨[0≤i∧i < s.len],.eptr s i.toNat 0,[]⟩ else none
   | none=>none
  | some (.slice E),.own j,.val (.int _ i)=>match bk j with
   | .pub s=>match zr V.P (sizeOf E) with
    | some n=>if n=s.sz then some ⟨[0≤i∧i < s.len],.eptr s i.toNat 0,[]⟩ else none
    | none=>none
   | .rows _ s=>match zr V.P (sizeOf E) with
    | some n=>if n=s.sz then some ⟨[0≤i∧i < (s.len:Int)],.rptr j s.sz 0 i,[]⟩ else none
    | none=>none
   | _=>none
  | some (.array len E),.ptr j off,.val (.int _ i)=>match zr V.P (sizeOf E) with
   | some n=>match lit with
    | true=>if 0≤i∧i < len then some ⟨[],.ptr j (off+i.toNat*n),[]⟩ else none
    | false=>some ⟨[0≤i∧i < len],.pix j off [(len,n,i)] 0,[]⟩
   | none=>none
  | some (.array len E),.pix j b ix off,.val (.int _ i)=>match zr V.P (sizeOf E) with
   | some n=>some ⟨[0≤i∧i < len],.pix j (b+off) (ix++[(len,n,i)]) 0,[]⟩
   | none=>none
  | some (.array len E),.rptr j sz off i0,.val (.int _ i)=>match zr V.P (sizeOf E) with
   | some n=>match lit with
    | true=>if 0≤i∧i < len then some ⟨[],.rptr j sz (off+i.toNat*n) i0,[]⟩ else none
    | false=>some ⟨[0≤i∧i < len],.rpix j sz off i0 [(len,n,i)],[]⟩
   | none=>none
  | _,_,_=>none
 | .index T x y=>match V.P.underlying T,g x,g y with
  | some (.array len E),.agg cs,.val (.int _ i)=>match zr V.P (isAgg E),zr V.P (sizeOf E) with
   | some t,some n=>match lit with
    | true=>if 0≤i∧i < len then z23 t n (cs.drop (i.toNat*n)) else none
    | false=>match zaah cs [(len,n,i)] 0 n with
     | some xs=>if t=true∨n=1 then some ⟨[0≤i∧i < len],zq3 t xs,[]⟩ else none
     | none=>none
   | _,_=>none
  | some .string,.val (.string s),.val (.int _ i)=>some ⟨[0≤i∧i < (s.size:Int)],.val (.int .u8 ((s.data.toList.getD i.toNat 0).toNat:Nat)),[]⟩
  | _,_,_=>none
 | .slice T x lo hi none=>match V.P.underlying T,g x with
  | some (.array (n+1) E),.ptr j off=>match lo,hi,zr V.P (sizeOf E) with
   | none,none,some _=>some ⟨[],.win j off (n+1),[]⟩
   | _,_,_=>none
  | some .string,.val (.string s)=>match z6r 0 (lo.map g),z6r s.size (hi.map g) with
   | some l,some r=>some ⟨[0≤l∧l≤r∧r≤(s.size:Int)],.val (.string (s.extract l.toNat r.toNat)),[]⟩
   | _,_=>none
  | some (.slice E),.sl s=>match zr V.P (sizeOf E),z6r 0 (lo.map g),z6r s.len (hi.map g) with
   | some n,some l,some r=>if n=s.sz then some ⟨[0≤l∧l≤r∧r≤(s.len:Int)],.sl (s.cut l.toNat r.toNat),[]⟩ else none
   | _,_,_=>none
  | some (.slice E),.own j=>match bk j,bk id,lo,zr V.P (sizeOf E) with
   | .rows F s,.free,none,some n=>match z6r s.len (hi.map g) with
    | some r=>if n=s.sz∧j≠id then some ⟨[0≤r∧r≤(s.len:Int)],.own id,[(j,.dead),(id,.rows F (s.cut 0 r.toNat))]⟩ else none
    | none=>none
   | _,_,_,_=>none
  | _,_=>none
 | .extract x i=>match g x with
  | .tup cs=>match cs[i]? with
   | some c=>some ⟨[],c,[]⟩
   | none=>none
  | _=>none
 | .binOp op T x y _=>match g x,g y with
  | .val u,.val v=>zafm V op T x y u v
  | .agg xs,.agg ys=>if (op=.eql∨op=.neq)∧V.P.eqGuardType V.P.depth T=false then
    match eqT V.P 8 T (.agg xs) (.agg ys) with
    | some b=>some ⟨[],.b (if op=.eql then b else !b),[]⟩
    | none=>none
   else none
  | .sl s,.val (.slice none 0 0)=>match V.P.underlying T,bk id with
   | some (.slice _),.free=>if op=.eql then some ⟨[],.own id,[(id,.bit (s.len=0) True)]⟩ else if op=.neq then some ⟨[],.own id,[(id,.bit True (s.len=0))]⟩ else none
   | _,_=>none
  | .ptr _ _,.val (.pointer none)=>match V.P.underlying T with
   | some (.pointer _)=>if op=.eql then some ⟨[],.b false,[]⟩ else if op=.neq then some ⟨[],.b true,[]⟩ else none
   | _=>none
  | _,_=>none
 | .unOp op _ x=>match g x with
  | .val u=>(zr V.P (Op.unary op u)).map fun r=>⟨[],.val r,[]⟩
  | _=>none
 | .convert T U x=>match g x with
  | .val (.string s)=>match V.P.underlying T,V.P.underlying U with
   | some .string,some (.slice E)=>match V.P.underlying E with
    | some (.int .u8)=>some ⟨[s.size≤9223372036854775807],.sl (.bytes s.data.toList),[]⟩
    | _=>none
   | _,_=>none
  | .sl (.bytes l)=>match V.P.underlying T,V.P.underlying U with
   | some (.slice E),some .string=>match V.P.underlying E with
    | some (.int .u8)=>some ⟨[],.val (.string ⟨l.toArray⟩),[]⟩
    | _=>none
   | _,_=>none
  | .val u=>(zr V.P (convert T U u)).map fun r=>⟨[],.val r,[]⟩
  | _=>none
 | .buildSlice t len parts=>zw3 V id g bk t len parts
 | .makeFunc (.func f) ⟨[]⟩ caps=>some ⟨[],.fn f (caps.toList.map g),[]⟩
 | .makeInterface T x=>match V.P.underlying T,g x with
  | some (.slice _),.own j=>some ⟨[],.iface T j,[]⟩
  | _,_=>none
 | .call c=>match c with
  | { callee:=.builtin b,args:=xs,argTypes:=ats }=>match vals (xs.toList.map g) with
   | some us=>match zr V.P (builtin b ats o.type (xs.map fun | .const _=>true | _=>false) us.toArray) with
    | some (.value r)=>some ⟨[],.val r,[]⟩
    | _=>none
   | none=>match b,xs with
    | .len,⟨[x]⟩=>match slOf bk (g x),ats[0]? with
     | some s,some T=>match V.P.underlying T with
      | some (.slice _)=>some ⟨[],.i s.len,[]⟩
      | _=>none
     | _,_=>none
    | .append,⟨[x,y]⟩=>match ats with
     | ⟨[t,t']⟩=>if t'=t then zaae V id bk t (g x) (g y) else none
     | _=>none
    | _,_=>none
  | { callee:=.value y,args:=xs,.. }=>match g y with
   | .fn f caps=>if zaf1 V.P f=true then match V.sp f with
     | some F=>F (xs.toList.map g++caps) bk id
     | none=>none
    else none
   | _=>none
  | _=>none
 | _=>none
def Env.Ok (V:Env):Prop:=∀ f F,V.sp f=some F→ze V.P f F
section sound
variable {V:Env} (hV:V.Ok) {G:Gl} {blks:List Blk} {nu:Nat→Option Value} {w:World} (h:MInv G blks nu w)
include h
theorem zamb {j:Nat} {s:Sl} {v:Value} (hb:blks.getD j .dead=.pub s) (hv:Rd (cx G blks nu w) (.own j) v):Rd (cx G blks nu w) (.sl s) v:=by
 cases hv with
 | own hn =>
  have hk:=h.ok j
  rw[hb] at hk
  obtain ⟨u,e1,e2⟩:=hk
  have:=hn.symm.trans e1
  simp at this;subst this
  exact e2
omit h in
theorem zml {bk:Nat→Blk} (hbk:∀ j,bk j=blks.getD j .dead∨bk j=.dead) {j:Nat} {x:Blk} (hx:bk j=x) (hd:x≠.dead):blks.getD j .dead=x:=by
 rcases hbk j with e | e
 ·rw[← e];exact hx
 ·exact absurd (hx.symm.trans e) hd
omit h in
theorem zamc {bk:Nat→Blk} (hbk:∀ j,bk j=blks.getD j .dead∨bk j=.dead) {l:List AV} (hl:l.all (one bk)=true):l.all (one fun j=>blks.getD j .dead)=true:=by
 rw[List.all_eq_true] at hl ⊢
 intro x hx
 have h1:=hl x hx
 cases x<;>try exact h1
 case own j =>
  simp only[one] at h1 ⊢
  cases hb:bk j<;>simp only[hb,Bool.false_eq_true] at h1
  ·rw[zml hbk hb (by simp)]
  ·rw[zml hbk hb (by simp)]
omit h in
theorem zamd {bk:Nat→Blk} (hbk:∀ j,bk j=blks.getD j .dead∨bk j=.dead) {x:AV} {s:Sl} (hs:slOf bk x=some s) :
  x=.sl s∨∃ j F,x=.own j∧(blks.getD j .dead=.rows F s∨blks.getD j .dead=.pub s):=by
 cases x<;>simp only[slOf,yy1,reduceCtorEq] at hs
 case sl s'=>subst hs;exact .inl rfl
 case own j =>
  cases hb:bk j<;>simp only[hb,yy1,reduceCtorEq] at hs
  case rows F s'=>subst hs;exact .inr ⟨j,F,rfl,.inl (zml hbk hb (by simp))⟩
  case pub s'=>subst hs;exact .inr ⟨j,0,rfl,.inr (zml hbk hb (by simp))⟩
theorem zacr {o:Oper} {op:BinOp} {T U:TypeId} {x y:Operand} {e:Operand→Value} {u v:Value} {r:Res} (ho:o.op=.binOp op T x y U)
  (hx:Rd (cx G blks nu w) (.val u) (e x)) (hy:Rd (cx G blks nu w) (.val v) (e y)) (hr:zafm V op T x y u v=some r) (hobl:z15 r.obl):Does V.P o e w (zln G blks nu w r):=by
 have dflt:((zr V.P (do eqGuard op T x y u v;binOp op T u v)).map fun r=>(⟨[],.val r,[]⟩:Res))=some r→Does V.P o e w (zln G blks nu w r):=by
  intro hr
  cases hp:zr V.P (do eqGuard op T x y u v;binOp op T u v) with
  | none=>rw[hp] at hr;cases hr
  | some q =>
   rw[hp] at hr
   simp only[Option.map_some,yy1] at hr
   subst hr
   exact zan3 h ho hx hy hp
 unfold zafm at hr
 split at hr
 ·simp only[yy1] at hr
  subst hr
  exact zaki h ho hx hy hobl.1
 ·split at hr
  ·rename_i hk
   subst hk
   simp only[yy1] at hr;subst hr
   exact zat2 h ho hx hy hobl.1 _
  ·cases hr
 ·split at hr
  ·rename_i hk
   subst hk
   simp only[yy1] at hr;subst hr
   exact zat3 h ho hx hy hobl.1 _
  ·cases hr
 ·simp only[yy1] at hr;subst hr
  have:=zadq (P:=V.P) h (.inl rfl) ho hx hy hobl.1
  simp only[if_true] at this
  exact this _
 ·simp only[yy1] at hr;subst hr
  have:=zadq (P:=V.P) h (.inr rfl) ho hx hy hobl.1
  simp only[reduceCtorEq,if_false] at this
  exact this _
 ·exact dflt hr
omit h in
theorem zpl {t:Bool} {n:Nat} {l:List AV} {r:Res} (hr:z23 t n l=some r):(l.take n).length=n∧(t=false→n=1)∧r=⟨[],zq3 t (l.take n),[]⟩:=by
 unfold z23 at hr
 split at hr
 ·rename_i hc
  refine ⟨hc.1,fun ht=>hc.2.resolve_left (by simp[ht]),by simpa using hr.symm⟩
 ·cases hr
theorem za4y {bk:Nat→Blk} (hbk:∀ j,bk j=blks.getD j .dead∨bk j=.dead) {x:AV} {u:Sl} {v:Value} (hs:slOf bk x=some u) (hv:Rd (cx G blks nu w) x v):Src (cx G blks nu w) u v:=by
 rcases zamd hbk hs with rfl | ⟨j,F,rfl,hb | hb⟩
 ·exact zayi hv
 ·cases hv with
  | own hn =>
   have hk:=h.ok j
   rw[hb] at hk
   obtain ⟨u',vs,e1,e2,e3,_⟩:=hk
   have:=hn.symm.trans e1
   simp only[yy1] at this;subst this
   exact zatm e2 e3
 ·exact zayi (zamb h hb hv)
omit hV h in
theorem zatw {P:Program} {o:Oper} {e:Operand→Value} {w:World} {Q Q':Value→World→Prop} (hd:Does P o e w Q) (hq:∀ v w',Q v w'→Q' v w'):Does P o e w Q':=by
 unfold Does at hd ⊢
 split at hd
 all_goals first
  | exact hq _ _ hd
  | exact hd.mono fun x w'' ⟨v,h1,h2⟩=>⟨v,h1,hq _ _ h2⟩
  | exact hd
omit hV h in
theorem za4z {blks:List Blk} {nu:Nat→Option Value} {w:World} (hm:MInv G blks nu w) {j:Nat} {E:TypeId} {s:Sl} (hb:blks.getD j .dead=.rows E s) :
  MInv G (blks.set j (.pub s)) nu w∧(cx G blks nu w).Le (cx G (blks.set j (.pub s)) nu w):=by
 have hjl:j < blks.length:=by
  rcases Nat.lt_or_ge j blks.length with h1 | h1
  ·exact h1
  ·rw[yy0,List.getElem?_eq_none h1] at hb;cases hb
 have hself:(blks.set j (.pub s)).getD j .dead=.pub s:=z9 hjl
 have hoth:∀ i,i≠j→(blks.set j (.pub s)).getD i .dead=blks.getD i .dead:=fun i hij=>getD_set_ne (fun e=>hij e.symm)
 have hlive:∀ i,((blks.set j (.pub s)).getD i .dead).live=true→i≠j∧(blks.getD i .dead).live=true:=by
  intro i hl
  by_cases hij:i=j
  ·subst hij;rw[hself] at hl;cases hl
  ·rw[hoth i hij] at hl;exact ⟨hij,hl⟩
 have hL:∀ b,z4s (blks.set j (.pub s)) nu b→z4s blks nu b:=by
  rintro b ⟨i,v,h1,h2,h3⟩
  exact ⟨i,v,(hlive i h1).2,h2,h3⟩
 have hcell:∀ x v,¬ (cx G blks nu w).L x.block→(cx G blks nu w).w.cell? x=some v→(cx G (blks.set j (.pub s)) nu w).w.cell? x=some v∧¬ (cx G (blks.set j (.pub s)) nu w).L x.block:=by
  intro x v hl hc
  exact ⟨hc,fun h=>hl (h.imp id (hL _))⟩
 have hle:(cx G blks nu w).Le (cx G (blks.set j (.pub s)) nu w):=⟨fun a v h1 h2=>(hcell a v h1 h2).1,fun a v h1 h2=>(hcell a v h1 h2).2,fun _ _ h=>h⟩
 have hok:=hm.ok j
 rw[hb] at hok
 obtain ⟨v0,vs,e1,e2,e3,e4⟩:=hok
 have hj:Rd (cx G (blks.set j (.pub s)) nu w) (.sl s) v0:=by
  rcases e2.2 with ⟨rfl,h0⟩ | ⟨g,cap,cur,rfl,hbase,hg,hnc,hcm,hcs,htake⟩
  ·exact .slnil h0
  ·refine .sl ⟨g,0,none⟩ cap (fun k c=>vs.getD (k*s.sz+c) undef) e4 hnc (fun k c hk hc=>?_) (fun _=>?_) (fun k c hk hc=>(e3 k c hk hc).mono hle)
   ·have hlt:k*s.sz+c < vs.length:=by
     rw[e2.1]
     calc k*s.sz+c < k*s.sz+s.sz:=by omega
      _=(k+1)*s.sz:=by rw[Nat.add_mul,Nat.one_mul]
      _≤s.len*s.sz:=Nat.mul_le_mul_right _ hk
    exact e2.cells (g:=g) rfl _ _ (by rw[yy0,yy3 hlt];rfl)
   ·rintro (h0 | ⟨i,u,h1,h2,h3⟩)
    ·rcases (hm.low j _ g (by rw[hb];rfl) e1 rfl).2 with h1 | h1
     ·have:=G.lt g h0
      omega
     ·exact G.dis g h1 h0
    ·obtain ⟨h4,h5⟩:=hlive i h1
     exact hm.apart i j u _ g h4 h5 (by rw[hb];rfl) h2 e1 h3 rfl
 refine ⟨⟨fun i=>?_,fun i i' v v' b hne h1 h2=>hm.apart i i' v v' b hne (hlive i h1).2 (hlive i' h2).2,fun i v b h1=>hm.low i v b (hlive i h1).2,hm.os,hm.tape,hm.output,hm.size,hm.block,hm.fix⟩,hle⟩
 by_cases hij:i=j
 ·subst hij;rw[hself];exact ⟨v0,e1,hj⟩
 ·rw[hoth i hij]
  exact BlkOk.mono hle (hm.ok i) (fun _ _ _ _ _=>rfl) rfl
omit hV h in
theorem zatx {blks:List Blk} {nu:Nat→Option Value} {w:World} {id:Nat} {E:TypeId} {r:Sl} {ob:List Prop} {v:Value} {w':World} (hid:id < blks.length) (hp:zln G blks nu w ⟨ob,.own id,[(id,.rows E r)]⟩ v w') :
  zln G blks nu w ⟨ob,.sl r,[(id,.pub r)]⟩ v w':=by
 obtain ⟨nu',le,m,rd⟩:=hp
 obtain ⟨m1,le1⟩:=za4z m (j:=id) (E:=E) (s:=r) (by simp only[upd];exact z9 hid)
 have e:(upd blks [(id,.rows E r)]).set id (.pub r)=upd blks [(id,.pub r)]:=by simp[upd]
 rw[e] at m1 le1
 exact ⟨nu',le.trans le1,m1,zamb m1 (j:=id) (by simp only[upd];exact z9 hid) (rd.mono le1)⟩
theorem zaaf {id:Nat} {bk:Nat→Blk} {o:Oper} {x y:Operand} {t:TypeId} {g:Operand→AV} {e:Operand→Value} {r:Res} (hbk:∀ j,bk j=blks.getD j .dead∨bk j=.dead) (hg:∀ x,Rd (cx G blks nu w) (g x) (e x))
  (ho:o.op=.call { callee:=.builtin .append,args:=⟨[x,y]⟩,argTypes:=⟨[t,t]⟩ }) (hr:zaae V id bk t (g x) (g y)=some r) (hobl:z15 r.obl):Does V.P o e w (zln G blks nu w r):=by
 unfold zaae at hr
 split at hr
 ·rename_i E sz bytes u hi hu hf
  have hfree:=zml hbk hf (by simp)
  have hsrc:=za4y h hbk hu (hg y)
  split at hr
  ·rename_i hx
   split at hr
   ·rename_i r' happ
    split at hr
    ·rename_i hsz
     subst hsz
     have hnil:e x=.slice none 0 0:=by
      have:=hg x
      rw[hx] at this
      generalize e x=a at this
      cases this;rfl
     have h0:u.empty.len=0:=by cases u<;>rfl
     have hob:(u.empty.len+u.len)*bytes≤140737488355328:=by
      split at hr
      ·simp only[yy1] at hr;subst hr;exact hobl.1
      ·simp only[yy1] at hr;subst hr;exact hobl.1
     have key:=z9z (blks1:=blks) (old:=none) h ho hi happ (vs:=[]) (by rw[hnil,h0];exact World.ownsRow_nil w _ _ _) (fun k c hk=>by omega) (fun b hb=>by rw[hnil] at hb;cases hb) hsrc hfree rfl
      (fun _ _ _=>rfl) (fun _ h=>by cases h) hob
     split at hr
     ·simp only[yy1] at hr;subst hr;exact key
     ·simp only[yy1] at hr;subst hr
      exact zatw key fun v w' hp=>zatx (by
       rcases Nat.lt_or_ge id blks.length with h1 | h1
       ·exact h1
       ·rw[yy0,List.getElem?_eq_none h1] at hfree;cases hfree) hp
    ·cases hr
   ·cases hr
  ·rename_i j hx
   split at hr
   ·rename_i F s hb
    have hbl:=zml hbk hb (by simp)
    split at hr
    ·rename_i r' happ
     split at hr
     ·rename_i hc
      obtain ⟨rfl,rfl,hne⟩:=hc
      simp only[yy1] at hr;subst hr
      have hk:=h.ok j
      rw[hbl] at hk
      obtain ⟨v,vs,e1,e2,e3,_⟩:=hk
      have hv:e x=v:=by
       have:=hg x
       rw[hx] at this
       cases this with
       | own hn=>exact Option.some.inj (hn.symm.trans e1)
      subst hv
      have hj:j < blks.length:=by
       rcases Nat.lt_or_ge j blks.length with h1 | h1
       ·exact h1
       ·rw[yy0,List.getElem?_eq_none h1] at hbl;cases hbl
      exact z9z (blks1:=blks.set j .dead) (old:=some j) h ho hi happ e2 e3 (fun b hb=>⟨j,rfl,e1⟩) hsrc hfree (by simp)
       (fun i _ hi=>getD_set_ne (fun q=>hi (by rw[q]))) (fun j' hj'=>by
        simp only[yy1] at hj';subst hj'
        exact ⟨hne,z9 hj,by rw[hbl];rfl⟩) hobl.1
     ·cases hr
    ·cases hr
   ·cases hr
  ·rename_i j off len hx
   split at hr
   ·rename_i U cs s0 hb hk
    have hbl:=zml hbk hb (by simp)
    split at hr
    ·rename_i hc
     obtain ⟨hsz,h0,hlen⟩:=hc
     split at hr
     ·rename_i ob s hp
      split at hr
      ·rename_i r' happ
       simp only[yy1] at hr;subst hr
       obtain ⟨o1,o2⟩:=allP_append.1 hobl
       subst hsz
       exact zacn h ho hi h0 (hx ▸ hg x) hbl hlen hp o1 happ hsrc o2.2.1 hfree o2.1
      ·cases hr
     ·cases hr
    ·cases hr
   ·cases hr
  ·cases hr
 ·cases hr
theorem z24 {id:Nat} {bk:Nat→Blk} {o:Oper} {t:TypeId} {len:Nat} {parts:Array (Nat×Operand)} {g:Operand→AV} {e:Operand→Value} {r:Res} (hbk:∀ j,bk j=blks.getD j .dead∨bk j=.dead)
  (hg:∀ x,Rd (cx G blks nu w) (g x) (e x)) (ho:o.op=.buildSlice t len parts) (hr:zw3 V id g bk t len parts=some r) (hobl:z15 r.obl):Does V.P o e w (zln G blks nu w r):=by
 unfold zw3 at hr
 split at hr
 ·rename_i E sz bytes s hi hk hf
  have hfree:=zml hbk hf (by simp)
  split at hr
  ·rename_i z hz
   split at hr
   ·rename_i hc
    obtain ⟨rfl,hsmall,h0⟩:=hc
    split at hr
    ·rename_i cs hfill
     split at hr
     ·rename_i ob r' hp
      simp only[yy1] at hr;subst hr
      exact z91 h ho hg hi hz h0 hfill hp hobl hsmall hfree
     ·cases hr
    ·cases hr
   ·cases hr
  ·cases hr
 ·cases hr
theorem zady {P:Program} {o:Oper} {op:BinOp} {T U E:TypeId} {x y:Operand} {e:Operand→Value} {s:Sl} {id:Nat} {p q:Prop} (ho:o.op=.binOp op T x y U)
  (hop:(op=.eql∧p=(s.len=0)∧q=True)∨(op=.neq∧p=True∧q=(s.len=0))) (hT:P.underlying T=some (.slice E))
  (hx:Rd (cx G blks nu w) (.sl s) (e x)) (hy:Rd (cx G blks nu w) (.val (.slice none 0 0)) (e y)) (hf:blks.getD id .dead=.free):Does P o e w (zln G blks nu w ⟨[],.own id,[(id,.bit p q)]⟩):=by
 have hrun:∃ b,(execOp e o).run P w=.ok (.value (.bool b)) w∧(b=true→p)∧(b=false→q):=by
  generalize hv:e x=a at hx
  generalize hw:e y=c at hy
  cases hy
  cases hx with
  | slnil h0 =>
   rcases hop with ⟨rfl,rfl,rfl⟩ | ⟨rfl,rfl,rfl⟩
   ·exact ⟨true,by simp[execOp,ho,hv,hw,eqGuard,binOp,run_equal_slice_nil w T E _ _ _ hT],fun _=>h0,fun _=>trivial⟩
   ·exact ⟨false,by simp[execOp,ho,hv,hw,eqGuard,binOp,run_equal_slice_nil w T E _ _ _ hT],fun _=>trivial,fun _=>h0⟩
  | sl a cap g' hm hc hcell hL hrd =>
   rcases hop with ⟨rfl,rfl,rfl⟩ | ⟨rfl,rfl,rfl⟩
   ·exact ⟨false,by simp[execOp,ho,hv,hw,eqGuard,binOp,run_equal_slice_nil w T E _ _ _ hT],(fun h=>by cases h),fun _=>trivial⟩
   ·exact ⟨true,by simp[execOp,ho,hv,hw,eqGuard,binOp,run_equal_slice_nil w T E _ _ _ hT],fun _=>trivial,(fun h=>by cases h)⟩
 obtain ⟨b,hrun,hbp⟩:=hrun
 have hd:nu id=none:=by have:=h.ok id;rw[hf] at this;exact this
 have hid:id < blks.length:=by
  rcases Nat.lt_or_ge id blks.length with h3 | h3
  ·exact h3
  ·rw[yy0,List.getElem?_eq_none h3] at hf;cases hf
 have:=h.step (w':=w) (blks':=blks.set id (.bit p q)) (nu':=fun i=>if i=id then some (.bool b) else nu i) (fun i=>i=id)
  (fun i v hi=>by
   by_cases e:i=id
   ·rw[e,hd] at hi;cases hi
   ·simp only[e,if_false];exact hi)
  (fun _ _ _=>rfl) (Nat.le_refl _) rfl rfl rfl (fun i hi=>getD_set_ne (fun e=>hi e.symm)) (fun i hi=>by simp[hi])
  (fun hle i hi=>by
   subst hi
   rw[z9 hid]
   exact ⟨b,by simp[cx],hbp⟩)
  (fun i v b' hi hl hv hb=>by subst hi;rw[z9 hid] at hl;cases hl)
  (fun i i' v v' b' hne hi hi'=>(hne (hi.trans hi'.symm)).elim)
 exact Does.value hrun ⟨_,this.1,this.2,.own (by simp[cx])⟩
theorem zaag {P:Program} {o:Oper} {op:BinOp} {T U E:TypeId} {x y:Operand} {e:Operand→Value} {j off:Nat} {b:Bool} (ho:o.op=.binOp op T x y U)
  (hop:(op=.eql∧b=false)∨(op=.neq∧b=true)) (hT:P.underlying T=some (.pointer E))
  (hx:Rd (cx G blks nu w) (.ptr j off) (e x)) (hy:Rd (cx G blks nu w) (.val (.pointer none)) (e y)):Does P o e w (zln G blks nu w ⟨[],.b b,[]⟩):=by
 have hT':P.underlying T=some (.pointer (P.pointee T)):=by unfold Program.pointee;rw[hT]
 have hrun:(execOp e o).run P w=.ok (.value (.bool b)) w:=by
  generalize hv:e x=a at hx
  generalize hw:e y=c at hy
  cases hy
  cases hx with
  | ptr h0 =>
   rcases hop with ⟨rfl,rfl⟩ | ⟨rfl,rfl⟩
   ·simp[execOp,ho,hv,hw,eqGuard,run_eql_pointer_nil w T _ hT']
   ·simp[execOp,ho,hv,hw,eqGuard,run_neq_pointer_nil w T _ hT']
 exact Does.value hrun (za8 h .val)
include hV in
theorem z25 {id:Nat} {g:Operand→AV} {o:Oper} {e:Operand→Value} {r:Res} {bk:Nat→Blk} (hbk:∀ j,bk j=blks.getD j .dead∨bk j=.dead) (hg:∀ x,Rd (cx G blks nu w) (g x) (e x))
  (hr:zaj9 V id g bk o=some r) (hobl:z15 r.obl):Does V.P o e w (zln G blks nu w r):=by
 unfold zaj9 at hr
 simp only at hr
 split at hr
 ·rename_i x ho
  simp only[yy1] at hr;subst hr
  exact zah7 h (.inl ho) (hg x)
 ·rename_i x ho
  simp only[yy1] at hr;subst hr
  exact zah7 h (.inr ho) (hg x)
 ·rename_i T ho
  split at hr
  ·rename_i z hf hz
   simp only[yy1] at hr;subst hr
   exact zan5 h ho hz (zml hbk hf (by simp))
  ·cases hr
 ·rename_i T x ho
  split at hr
  ·rename_i cs hf hc
   simp only[yy1] at hr;subst hr
   exact zat6 h ho (hg x) hc (zml hbk hf (by simp))
  ·cases hr
 ·rename_i T parts ho
  split at hr
  ·rename_i pl z hp
   cases hc:zw6 pl (z.cells.toList.map .val) (parts.toList.map fun p=>(p.1,g p.2)) with
   | none=>rw[hc] at hr;cases hr
   | some cs =>
    rw[hc] at hr
    simp only[Option.map_some,yy1] at hr;subst hr
    exact zan8 h ho hg hp hc
  ·cases hr
 ·rename_i T x ho
  split at hr
  ·rename_i t n ht hn
   split at hr
   ·rename_i j off hgx
    split at hr
    ·rename_i U cs hb
     obtain ⟨h1,h2,rfl⟩:=zpl hr
     exact zaf2 h ho (hgx ▸ hg x) (zml hbk hb (by simp)) ht hn h2 h1
    ·cases hr
   ·rename_i j b ix off hgx
    split at hr
    ·rename_i U cs hb
     split at hr
     ·rename_i xs hxs
      split at hr
      ·rename_i hc
       simp only[yy1] at hr;subst hr
       exact zafv h ho (hgx ▸ hg x) (zml hbk hb (by simp)) ht hn (fun ht=>hc.resolve_left (by simp[ht])) hxs
      ·cases hr
     ·cases hr
    ·cases hr
   ·rename_i j sz off i hgx
    split at hr
    ·rename_i F s hb
     split at hr
     ·rename_i hsz
      obtain ⟨h1,h2,rfl⟩:=zpl hr
      exact zacx h ho (hgx ▸ hg x) (zml hbk hb (by simp)) hsz ht hn h2 h1
     ·cases hr
    ·cases hr
   ·rename_i j sz off i ix hgx
    split at hr
    ·rename_i F s hb
     split at hr
     ·rename_i xs hxs
      split at hr
      ·rename_i hc
       simp only[yy1] at hr;subst hr
       exact zacy h ho (hgx ▸ hg x) (zml hbk hb (by simp)) hc.1 ht hn (fun ht=>hc.2.resolve_left (by simp[ht])) hxs
      ·cases hr
     ·cases hr
    ·cases hr
   ·rename_i s k off hgx
    obtain ⟨h1,h2,rfl⟩:=zpl hr
    exact zacv h ho (hgx ▸ hg x) ht hn h2 h1
   ·cases hr
  ·cases hr
 ·rename_i T x y ho
  split at hr
  ·rename_i n j off hn hgx
   split at hr
   ·rename_i U cs hb
    split at hr
    ·rename_i hc
     simp only[yy1] at hr;subst hr
     exact zan6 h ho (hgx ▸ hg x) (hg y) (zml hbk hb (by simp)) hn (zamc hbk hc.1) hc.2.1 hc.2.2
    ·cases hr
   ·cases hr
  ·rename_i n j b ix off hn hgx
   split at hr
   ·rename_i U cs hb
    split at hr
    ·rename_i hc
     split at hr
     ·rename_i cs' hp
      simp only[yy1] at hr;subst hr
      exact zact h ho (hgx ▸ hg x) (hg y) (zml hbk hb (by simp)) hn (zamc hbk hc.1) hc.2.1 hc.2.2 hp
     ·cases hr
    ·cases hr
   ·cases hr
  ·rename_i n j sz off i hn hgx
   split at hr
   ·rename_i F s hb
    split at hr
    ·rename_i hc
     split at hr
     ·rename_i r' hp
      simp only[yy1] at hr;subst hr
      exact zaal h ho (hgx ▸ hg x) (hg y) (zml hbk hb (by simp)) hc.1 hn (zamc hbk hc.2.1) hc.2.2.1 hc.2.2.2 hp
     ·cases hr
    ·cases hr
   ·cases hr
  ·rename_i n j sz off i ix hn hgx
   split at hr
   ·rename_i F s hb
    split at hr
    ·rename_i hc
     split at hr
     ·rename_i row hq
      split at hr
      ·rename_i r' hp
       simp only[yy1] at hr;subst hr
       exact zaam h ho (hgx ▸ hg x) (hg y) (zml hbk hb (by simp)) hc.1 hn (zamc hbk hc.2.2.1) hc.2.2.2.1 hc.2.1 hc.2.2.2.2 hq hp
      ·cases hr
     ·cases hr
    ·cases hr
   ·cases hr
  ·cases hr
 ·rename_i x ho
  split at hr
  ·rename_i hc
   simp only[yy1] at hr;subst hr
   exact zaf3 h ho (hg x) hc
  ·cases hr
 ·rename_i T x f ho
  split at hr
  ·rename_i d hd
   split at hr
   ·rename_i c hc
    simp only[yy1] at hr;subst hr
    exact zacw h ho (hg x) hd hc
   ·cases hr
  ·cases hr
 ·rename_i T x f ho
  split at hr
  ·rename_i d cs hd hgx
   split at hr
   ·rename_i t n ht hn
    obtain ⟨h1,h2,rfl⟩:=zpl hr
    exact zan7 h ho (hgx ▸ hg x) hd ht hn h2 h1
   ·cases hr
  ·cases hr
 ·rename_i T x y ho
  split at hr
  ·rename_i E s k i hT hgx hgy
   split at hr
   ·rename_i n hn
    split at hr
    ·rename_i hs
     subst hs
     simp only[yy1] at hr;subst hr
     exact z14 h ho (hgx ▸ hg x) (hgy ▸ hg y) hT hn hobl.1
    ·cases hr
   ·cases hr
  ·rename_i E j k i hT hgx hgy
   split at hr
   ·rename_i s hb
    split at hr
    ·rename_i n hn
     split at hr
     ·rename_i hs
      subst hs
      simp only[yy1] at hr;subst hr
      exact z14 h ho (zamb h (zml hbk hb (by simp)) (hgx ▸ hg x)) (hgy ▸ hg y) hT hn hobl.1
     ·cases hr
    ·cases hr
   ·rename_i F s hb
    split at hr
    ·rename_i n hn
     split at hr
     ·rename_i hs
      subst hs
      simp only[yy1] at hr;subst hr
      exact zaf4 h ho (hgx ▸ hg x) (zml hbk hb (by simp)) (hgy ▸ hg y) hT hn hobl.1
     ·cases hr
    ·cases hr
   ·cases hr
  ·rename_i len E j off k i hT hgx hgy
   split at hr
   ·rename_i n hn
    split at hr
    ·split at hr
     ·rename_i hi
      simp only[yy1] at hr;subst hr
      exact zafy h ho (hgx ▸ hg x) (hgy ▸ hg y) hT hn hi
     ·cases hr
    ·simp only[yy1] at hr;subst hr
     exact zafu h ho (hgx ▸ hg x) (hgy ▸ hg y) hT hn hobl.1
   ·cases hr
  ·rename_i len E j b ix off k i hT hgx hgy
   split at hr
   ·rename_i n hn
    simp only[yy1] at hr;subst hr
    exact zacs h ho (hgx ▸ hg x) (hgy ▸ hg y) hT hn hobl.1
   ·cases hr
  ·rename_i len E j sz off i0 k i hT hgx hgy
   split at hr
   ·rename_i n hn
    split at hr
    ·split at hr
     ·rename_i hi
      simp only[yy1] at hr;subst hr
      exact zac0 h ho (hgx ▸ hg x) (hgy ▸ hg y) hT hn hi
     ·cases hr
    ·simp only[yy1] at hr;subst hr
     exact zacz h ho (hgx ▸ hg x) (hgy ▸ hg y) hT hn hobl.1
   ·cases hr
  ·cases hr
 ·rename_i T x y ho
  split at hr
  ·rename_i len E cs k i hT hgx hgy
   split at hr
   ·rename_i t n ht hn
    split at hr
    ·split at hr
     ·rename_i hi
      obtain ⟨h1,h2,rfl⟩:=zpl hr
      exact zafz h ho (hgx ▸ hg x) (hgy ▸ hg y) hT ht hn hi h2 h1
     ·cases hr
    ·split at hr
     ·rename_i xs hxs
      split at hr
      ·rename_i hc
       simp only[yy1] at hr;subst hr
       exact zafw h ho (hgx ▸ hg x) (hgy ▸ hg y) hT ht hn hobl.1 (fun ht=>hc.resolve_left (by simp[ht])) hxs
      ·cases hr
     ·cases hr
   ·cases hr
  ·rename_i s k i hT hgx hgy
   simp only[yy1] at hr;subst hr
   exact zaff h ho hT (hgx ▸ hg x) (hgy ▸ hg y) hobl.1
  ·cases hr
 ·rename_i T x lo hi ho
  split at hr
  ·rename_i n E j off hT hgx
   split at hr
   ·rename_i m hm
    simp only[yy1] at hr;subst hr
    exact zatr h ho hT hm (hgx ▸ hg x)
   ·cases hr
  ·rename_i s hT hgx
   split at hr
   ·rename_i l r hl hr'
    simp only[yy1] at hr;subst hr
    exact zafe h ho hT hg hgx hl hr' hobl.1
   ·cases hr
  ·rename_i E s hT hgx
   split at hr
   ·rename_i n l r hn hl hr'
    split at hr
    ·rename_i hs
     subst hs
     simp only[yy1] at hr;subst hr
     exact zahn h ho hT hn hg hgx hl hr' hobl.1
    ·cases hr
   ·cases hr
  ·rename_i E j hT hgx
   split at hr
   ·rename_i F s n hb hf hn
    split at hr
    ·rename_i r hr'
     split at hr
     ·rename_i hc
      simp only[yy1] at hr;subst hr
      exact zaf5 h ho hT (hc.1 ▸ hn) hg hgx (zml hbk hb (by simp)) (zml hbk hf (by simp)) hc.2 hr' hobl.1
     ·cases hr
    ·cases hr
   ·cases hr
  ·cases hr
 ·rename_i x i ho
  split at hr
  ·rename_i cs hgx
   split at hr
   ·rename_i c hc
    simp only[yy1] at hr;subst hr
    exact zah8 h ho (hgx ▸ hg x) hc
   ·cases hr
  ·cases hr
 ·rename_i op T x y U ho
  split at hr
  ·rename_i u v hgx hgy
   exact zacr h ho (hgx ▸ hg x) (hgy ▸ hg y) hr hobl
  ·rename_i xs ys hgx hgy
   split at hr
   ·rename_i hc
    split at hr
    ·rename_i b hb
     simp only[yy1] at hr;subst hr
     exact zan1 h hc.1 ho (hgx ▸ hg x) (hgy ▸ hg y) hc.2 hb
    ·cases hr
   ·cases hr
  ·rename_i s hgx hgy
   split at hr
   ·rename_i E hT hf
    split at hr
    ·rename_i hop
     simp only[yy1] at hr;subst hr
     exact zady h ho (.inl ⟨hop,rfl,rfl⟩) hT (hgx ▸ hg x) (hgy ▸ hg y) (zml hbk hf (by simp))
    ·split at hr
     ·rename_i hop
      simp only[yy1] at hr;subst hr
      exact zady h ho (.inr ⟨hop,rfl,rfl⟩) hT (hgx ▸ hg x) (hgy ▸ hg y) (zml hbk hf (by simp))
     ·cases hr
   ·cases hr
  ·rename_i hgx hgy
   split at hr
   ·rename_i E hT
    split at hr
    ·rename_i hop
     simp only[yy1] at hr;subst hr
     exact zaag h ho (.inl ⟨hop,rfl⟩) hT (hgx ▸ hg x) (hgy ▸ hg y)
    ·split at hr
     ·rename_i hop
      simp only[yy1] at hr;subst hr
      exact zaag h ho (.inr ⟨hop,rfl⟩) hT (hgx ▸ hg x) (hgy ▸ hg y)
     ·cases hr
   ·cases hr
  ·cases hr
 ·rename_i op T x ho
  split at hr
  ·rename_i u hgx
   cases hp:zr V.P (Op.unary op u) with
   | none=>rw[hp] at hr;cases hr
   | some q =>
    rw[hp] at hr
    simp only[Option.map_some,yy1] at hr;subst hr
    exact zaq8 h ho (hgx ▸ hg x) hp
  ·cases hr
 ·rename_i T U x ho
  split at hr
  ·rename_i s hgx
   split at hr
   ·rename_i E hT hU
    split at hr
    ·rename_i hE
     simp only[yy1] at hr;subst hr
     exact zanq h ho hT hU hE (hgx ▸ hg x) hobl.1
    ·cases hr
   ·cases hr
  ·rename_i l hgx
   split at hr
   ·rename_i E hT hU
    split at hr
    ·rename_i hE
     simp only[yy1] at hr;subst hr
     exact zaj1 h ho hU hT hE (hgx ▸ hg x)
    ·cases hr
   ·cases hr
  ·rename_i u _ hgx
   cases hp:zr V.P (convert T U u) with
   | none=>rw[hp] at hr;cases hr
   | some q =>
    rw[hp] at hr
    simp only[Option.map_some,yy1] at hr;subst hr
    exact zah3 h ho (hgx ▸ hg x) hp
  ·cases hr
 ·rename_i t len parts ho
  exact z24 h hbk hg ho hr hobl
 ·rename_i f caps ho
  simp only[yy1] at hr;subst hr
  exact zaf0 h ho hg
 ·rename_i T x ho
  split at hr
  ·rename_i E j hT hgx
   simp only[yy1] at hr;subst hr
   exact zac1 h ho hT (hgx ▸ hg x)
  ·cases hr
 ·rename_i c ho
  split at hr
  ·rename_i b xs ats
   split at hr
   ·rename_i us hus
    split at hr
    ·rename_i q hq
     simp only[yy1] at hr;subst hr
     exact zah4 h ho hg (zahz _ _ hus) hq
    ·cases hr
   ·split at hr
    ·split at hr
     ·rename_i s T hs ha
      split at hr
      ·rename_i E hT
       simp only[yy1] at hr;subst hr
       exact zat4 h ho ha hT (hg _) (zamd hbk hs)
      ·cases hr
     ·cases hr
    ·split at hr
     ·split at hr
      ·rename_i ht
       subst ht
       exact zaaf h hbk hg ho hr hobl
      ·cases hr
     ·cases hr
    ·cases hr
  ·rename_i y xs ats
   split at hr
   ·rename_i f caps hy
    split at hr
    ·rename_i hf
     split at hr
     ·rename_i F hF
      exact zaq9 h hbk ho hg hy hf (hV f F hF) hr hobl
     ·cases hr
    ·cases hr
   ·cases hr
  ·cases hr
 ·cases hr
end sound
