/-
  The walk over abstract states.
-/
import Derived.Test.YtobfadhgiaphnaaGreatXAbOp2
import Derived.Great.BuildSlice
import Derived.Laws.OwnMore
import Derived.Maps.AppendAt
namespace Go.Proofs.YtobfadhgiaphnaaGreat.Ab
open Go Go.RowKit
set_option linter.unusedSimpArgs false
set_option linter.unusedVariables false
def AV.one:AV→Bool
 | .val (.int ..) | .val (.bool _) | .val (.string _) | .sl _=>true
 | _=>false
theorem za4n {C:Cx} {x:AV} {v:Value} (hx:x.one=true) (h:Rd C x v):v.oneCell'=true:=by
 cases h with
 | any=>cases hx
 | val=>cases v<;>first | rfl | cases hx
 | slnil h0=>rfl
 | sl=>rfl
 | _=>cases hx
theorem zatl (s:Sl) (k c:Nat) (hc:c < s.sz):(s.cell k c).one=true:=by
 have hall:(s.row k).all AV.one=true:=by cases s<;>rfl
 unfold Sl.cell
 rw[yy0,yy3 (by rw[Sl.row_length];exact hc)]
 exact List.all_eq_true.1 hall _ (List.getElem_mem _)
theorem zn5 {α:Type} {l m:List α} {d:α} {k:Nat} (h:k < l.length):(l++m).getD k d=l.getD k d:=by
 rw[yy0,List.getElem?_append_left h,← yy0]
theorem z6q {α:Type} {l m:List α} {d:α} {k:Nat}:(l++m).getD (l.length+k) d=m.getD k d:=by
 rw[yy0,List.getElem?_append_right (by omega),Nat.add_sub_cancel_left,← yy0]
theorem zal0 {s t r:Sl} (h:s.app t=some r):r.len=s.len+t.len∧r.sz=s.sz∧t.sz=s.sz∧(∀ k c,k < s.len→r.cell k c=s.cell k c)∧(∀ k c,r.cell (s.len+k) c=t.cell k c):=by
 cases s<;>cases t<;>simp only[Sl.app,yy1,reduceCtorEq] at h<;>subst h
 all_goals
  refine ⟨by simp[Sl.len],rfl,rfl,fun k c hk=>?_,fun k c=>?_⟩
  ·simp only[Sl.len] at hk
   simp only[Sl.cell,Sl.row]
   rw[zn5 hk]
  ·simp only[Sl.cell,Sl.row,Sl.len]
   rw[z6q]
def Src (C:Cx) (t:Sl) (v:Value):Prop :=
 ∃ news:List Value,news.length=t.len*t.sz∧(∀ k c,k < t.len→c < t.sz→Rd C (t.cell k c) (news.getD (k*t.sz+c) undef)) ∧
  ((v=.slice none 0 0∧t.len=0)∨∃ a c,v=.slice (some a) t.len c∧∀ j u,news[j]?=some u→C.w.cell? (a.add j)=some u)
theorem zayi {C:Cx} {t:Sl} {v:Value} (h:Rd C (.sl t) v):Src C t v:=by
 cases h with
 | slnil h0=>exact ⟨[],by simp[h0],fun k c hk=>by omega,.inl ⟨rfl,h0⟩⟩
 | sl a cap g hm hc hcell hL hrd =>
  have hz:=zt3 t
  have hdec:∀ j,j < t.len*t.sz→j / t.sz < t.len∧j % t.sz < t.sz∧(j / t.sz)*t.sz+j % t.sz=j:=fun j hj =>
   ⟨Nat.div_lt_of_lt_mul (by rw[Nat.mul_comm];exact hj),Nat.mod_lt _ hz,Nat.div_add_mod' j t.sz⟩
  refine ⟨(List.range (t.len*t.sz)).map fun j=>g (j / t.sz) (j % t.sz),by simp,fun k c hk hcc=>?_,.inr ⟨a,cap,rfl,fun j u hj=>?_⟩⟩
  ·have hlt:k*t.sz+c < t.len*t.sz:=by
    calc k*t.sz+c < k*t.sz+t.sz:=by omega
     _=(k+1)*t.sz:=by rw[Nat.add_mul,Nat.one_mul]
     _≤t.len*t.sz:=Nat.mul_le_mul_right _ hk
   have e1:(k*t.sz+c) / t.sz=k:=by rw[Nat.mul_comm,Nat.mul_add_div hz,Nat.div_eq_of_lt hcc,Nat.add_zero]
   have e2:(k*t.sz+c) % t.sz=c:=by rw[Nat.mul_comm,Nat.mul_add_mod,Nat.mod_eq_of_lt hcc]
   rw[yy0,List.getElem?_map,List.getElem?_range hlt]
   simp only[Option.map_some,yy2,e1,e2]
   exact hrd k c hk hcc
  ·rw[List.getElem?_map] at hj
   by_cases hlt:j < t.len*t.sz
   ·rw[List.getElem?_range hlt] at hj
    simp only[Option.map_some,yy1] at hj
    subst hj
    obtain ⟨h1,h2,h3⟩:=hdec j hlt
    have:=hcell (j / t.sz) (j % t.sz) h1 h2
    rwa [h3] at this
   ·rw[List.getElem?_eq_none (by simpa using hlt)] at hj;cases hj
theorem zatm {C:Cx} {base:Nat} {E:TypeId} {t:Sl} {v:Value} {vs:List Value} (h:C.w.ownsRow base E t.sz v t.len vs) (hrd:∀ k c,k < t.len→c < t.sz→Rd C (t.cell k c) (vs.getD (k*t.sz+c) undef)):Src C t v:=by
 refine ⟨vs,h.1,hrd,?_⟩
 rcases h.2 with ⟨rfl,h0⟩ | ⟨g,cap,cur,rfl,_⟩
 ·exact .inl ⟨rfl,h0⟩
 ·exact .inr ⟨_,cap,rfl,h.cells rfl⟩
theorem z9y {v:Value} {w:World} {base:Nat} {E:TypeId} {sz n:Nat} {xs:List Value} (h:w.ownsRow base E sz v n xs):zfq v=v.ownBlock:=by
 rcases h.2 with ⟨rfl,_⟩ | ⟨g,cap,cur,rfl,_⟩<;>rfl
theorem MInv.putRow {G:Gl} {blks blks1:List Blk} {nu:Nat→Option Value} {w w':World} (h:MInv G blks nu w) {id:Nat} {E:TypeId} {s:Sl} {v:Value} {vs:List Value} {old:Option Nat} {row:Option Nat}
  (hf:blks.getD id .dead=.free) (hlen:blks1.length=blks.length)
  (h1:∀ i,i≠id→old≠some i→blks1.getD i .dead=blks.getD i .dead) (h2:∀ j,old=some j→j≠id∧blks1.getD j .dead=.dead∧(blks.getD j .dead).live=true)
  (hown:w'.ownsRow 0 E s.sz v s.len vs) (hm:s.len≤maxLen)
  (hrd:∀ C',(cx G blks nu w).Le C'→∀ k c,k < s.len→c < s.sz→Rd C' (s.cell k c) (vs.getD (k*s.sz+c) undef))
  (hg:w.grownBy w' row) (hrow:∀ b,row=some b→∃ j u,old=some j∧nu j=some u∧zfq u=some b)
  (hat:zfq v=row∨∀ b,zfq v=some b→w.heap.size≤b) :
  ∃ nu',(cx G blks nu w).Le (cx G (blks1.set id (.rows E s)) nu' w')∧MInv G (blks1.set id (.rows E s)) nu' w'∧nu' id=some v:=by
 have hd:nu id=none:=by have:=h.ok id;rw[hf] at this;exact this
 have hid:id < blks1.length:=by
  rw[hlen]
  rcases Nat.lt_or_ge id blks.length with h3 | h3
  ·exact h3
  ·rw[yy0,List.getElem?_eq_none h3] at hf;cases hf
 refine ⟨fun i=>if i=id then some v else nu i,?_⟩
 have:=h.step (w':=w') (blks':=blks1.set id (.rows E s)) (nu':=fun i=>if i=id then some v else nu i) (fun i=>i=id∨old=some i)
  (fun i u hi=>by
   by_cases e:i=id
   ·rw[e,hd] at hi;cases hi
   ·simp only[e,if_false];exact hi)
  (fun b hb hn=>hg.block b hb fun e=>by
   obtain ⟨j,u,e1,e2,e3⟩:=hrow b e.symm
   exact hn j u (.inr e1) (h2 j e1).2.2 e2 e3)
  hg.size hg.os hg.tape hg.output
  (fun i hi=>by
   have hi1:i≠id:=fun e=>hi (.inl e)
   rw[getD_set_ne (fun e=>hi1 e.symm)]
   exact h1 i hi1 fun e=>hi (.inr e))
  (fun i hi=>by simp[show i≠id from fun e=>hi (.inl e)])
  (fun hle i hi=>by
   by_cases e:i=id
   ·subst e
    rw[z9 hid]
    exact ⟨v,vs,by simp[cx],hown,hrd _ hle,hm⟩
   ·rcases hi with hi | hi
    ·exact absurd hi e
    ·rw[getD_set_ne (fun q=>e q.symm),(h2 i hi).2.1];trivial)
  (fun i u b hi hl hv hb=>by
   by_cases e:i=id
   ·subst e
    simp only[if_true,yy1] at hv
    subst hv
    have hlt:=(hown.lt b (by rw[← z9y hown];exact hb)).2
    refine ⟨hlt,?_⟩
    rcases hat with h3 | h3
    ·obtain ⟨j,u,e1,e2,e3⟩:=hrow b (h3 ▸ hb)
     exact .inr ⟨j,u,.inr e1,(h2 j e1).2.2,e2,e3⟩
    ·exact .inl (h3 b hb)
   ·rcases hi with hi | hi
    ·exact absurd hi e
    ·rw[getD_set_ne (fun q=>e q.symm),(h2 i hi).2.1] at hl;cases hl)
  (fun i i' u u' b hne hi hi' hl hl'=>by
   by_cases e:i=id
   ·by_cases e':i'=id
    ·exact absurd (e.trans e'.symm) hne
    ·rcases hi' with hi' | hi'
     ·exact absurd hi' e'
     ·rw[getD_set_ne (fun q=>e' q.symm),(h2 i' hi').2.1] at hl';cases hl'
   ·rcases hi with hi | hi
    ·exact absurd hi e
    ·rw[getD_set_ne (fun q=>e q.symm),(h2 i hi).2.1] at hl;cases hl)
 exact ⟨this.1,this.2,by simp⟩
def z2y (P:Program) (t:TypeId):Option (TypeId×Nat×Nat) :=
 match P.underlying t with
 | some (.slice E)=>match P.info? E with
  | some i=>match i.zero with
   | some z=>if z.cells.size=i.size∧0 < i.bytes then some (E,i.size,i.bytes) else none
   | none=>none
  | none=>none
 | _=>none
theorem zzc {P:Program} {t E:TypeId} {sz bytes:Nat} (h:z2y P t=some (E,sz,bytes)) :
  P.underlying t=some (.slice E)∧∃ i z,P.info? E=some i∧i.zero=some z∧z.cells.size=i.size∧i.size=sz∧i.bytes=bytes∧0 < bytes:=by
 unfold z2y at h
 split at h
 ·rename_i E' hE
  split at h
  ·rename_i i hi
   split at h
   ·rename_i z hz
    split at h
    ·rename_i hc
     simp only[yy1,Prod.mk.injEq] at h
     obtain ⟨rfl,h1,h2⟩:=h
     exact ⟨hE,i,z,hi,hz,hc.1,h1,h2,h2 ▸ hc.2⟩
    ·cases h
   ·cases h
  ·cases h
 ·cases h
theorem z9z {P:Program} {G:Gl} {blks blks1:List Blk} {nu:Nat→Option Value} {w:World} (h:MInv G blks nu w) {o:Oper} {x y:Operand} {t:TypeId} {e:Operand→Value} {E:TypeId} {bytes:Nat}
  {s u r:Sl} {id:Nat} {old:Option Nat} (ho:o.op=.call { callee:=.builtin .append,args:=#[x,y],argTypes:=#[t,t] }) (hi:z2y P t=some (E,s.sz,bytes)) (happ:s.app u=some r)
  {vs:List Value} (hown:w.ownsRow 0 E s.sz (e x) s.len vs) (hvs:∀ k c,k < s.len→c < s.sz→Rd (cx G blks nu w) (s.cell k c) (vs.getD (k*s.sz+c) undef))
  (hold:∀ b,zfq (e x)=some b→∃ j,old=some j∧nu j=some (e x)) (hsrc:Src (cx G blks nu w) u (e y))
  (hf:blks.getD id .dead=.free) (hlen:blks1.length=blks.length)
  (h1:∀ i,i≠id→old≠some i→blks1.getD i .dead=blks.getD i .dead) (h2:∀ j,old=some j→j≠id∧blks1.getD j .dead=.dead∧(blks.getD j .dead).live=true)
  (hob:(s.len+u.len)*bytes≤140737488355328) :
  Does P o e w fun v w'=>∃ nu',(cx G blks nu w).Le (cx G (blks1.set id (.rows E r)) nu' w')∧MInv G (blks1.set id (.rows E r)) nu' w'∧Rd (cx G (blks1.set id (.rows E r)) nu' w') (.own id) v:=by
 obtain ⟨hT,i,z,hi1,hz,hzs,hsz,hby,hpos⟩:=zzc hi
 obtain ⟨news,hl,hrd,hcase⟩:=hsrc
 obtain ⟨a1,a2,a3,a4,a5⟩:=zal0 happ
 have hsum:s.len+u.len≤140737488355328:=Nat.le_trans (Nat.le_mul_of_pos_right _ hpos) hob
 have hmax:s.len+u.len≤maxLen:=by unfold maxLen;omega
 have hz0:=zt3 s
 have hread:∀ C',(cx G blks nu w).Le C'→∀ k c,k < r.len→c < r.sz→Rd C' (r.cell k c) ((vs++news).getD (k*r.sz+c) undef):=by
  intro C' hle k c hk hc
  rw[a2] at hc ⊢
  by_cases hks:k < s.len
  ·have hlt:k*s.sz+c < vs.length:=by
    rw[hown.1]
    calc k*s.sz+c < k*s.sz+s.sz:=by omega
     _=(k+1)*s.sz:=by rw[Nat.add_mul,Nat.one_mul]
     _≤s.len*s.sz:=Nat.mul_le_mul_right _ hks
   rw[zn5 hlt,a4 k c hks]
   exact (hvs k c hks hc).mono hle
  ·obtain ⟨q,rfl⟩:∃ q,k=s.len+q:=⟨k - s.len,by omega⟩
   have e1:(s.len+q)*s.sz+c=vs.length+(q*s.sz+c):=by rw[hown.1,Nat.add_mul];omega
   rw[e1,z6q,a5]
   have:=hrd q c (by omega) (by rw[a3];exact hc)
   rw[a3] at this
   exact this.mono hle
 have hrow:∀ b,zfq (e x)=some b→∃ j v,old=some j∧nu j=some v∧zfq v=some b:=fun b hb=>by
  obtain ⟨j,h3,h4⟩:=hold b hb
  exact ⟨j,_,h3,h4,hb⟩
 rcases hcase with ⟨hy,h0⟩ | ⟨a,c,hy,hcells⟩
 ·have hn:news=[]:=List.eq_nil_of_length_eq_zero (by rw[hl,h0,Nat.zero_mul])
  subst hn
  have hrun:=run_append_owned_none (P:=P) (w:=w) (ty:=o.type) 0 t E i s.sz hT hi1 (e x) s.len vs hown
  have hown':w.ownsRow 0 E r.sz (e x) r.len (vs++[]):=by
   rw[a2,a1,h0,Nat.add_zero,List.append_nil];exact hown
  obtain ⟨nu',k1,k2,k3⟩:=h.putRow (w':=w) (row:=zfq (e x)) hf hlen h1 h2 hown' (by rw[a1];exact hmax) hread ⟨rfl,rfl,rfl,Nat.le_refl _,fun _ _ _=>rfl⟩ hrow (.inl rfl)
  refine Does.value (v:=e x) (w':=w) ?_ ⟨nu',k1,k2,.own k3⟩
  simp[execOp,ho,resolve,invoke,builtin,hy,hrun,Result.andThen]
 ·obtain ⟨v',w',hrun,k1,k2,_,k4⟩:=run_append_own_at (P:=P) w 0 t o.type E i z s.sz bytes hT hi1 hz hsz hby (hzs.trans hsz) hz0 (e x) s.len vs hown a u.len c news (by rw[hl,a3]) hcells
   (fun q hq=>by
    obtain ⟨j,hj,rfl⟩:=List.getElem_of_mem hq
    rw[hl] at hj
    have hzu:=zt3 u
    have hd1:j / u.sz < u.len:=Nat.div_lt_of_lt_mul (by rw[Nat.mul_comm];exact hj)
    have hd2:=Nat.mod_lt j hzu
    have:=hrd _ _ hd1 hd2
    rw[Nat.div_add_mod',yy0,yy3 (by rw[hl];exact hj)] at this
    exact za4n (zatl u _ _ hd2) this) hmax hob (Nat.zero_le _)
  have hown':w'.ownsRow 0 E r.sz v' r.len (vs++news):=by rw[a2,a1];exact k1
  obtain ⟨nu',k5,k6,k7⟩:=h.putRow (w':=w') (row:=zfq (e x)) hf hlen h1 h2 hown' (by rw[a1];exact hmax) hread (by rw[z9y hown];exact k2) hrow
   (by
    rw[z9y k1,z9y hown]
    refine k4.imp (fun q=>q) (fun q b hb=>?_)
    rw[q] at hb
    simp only[yy1] at hb
    omega)
  refine Does.value (v:=v') (w':=w') ?_ ⟨nu',k5,k6,.own k7⟩
  simp[execOp,ho,resolve,invoke,builtin,hy,hrun,Result.andThen]
def aU:AV→Option Int
 | .val (.int .u8 n)=>some n
 | _=>none
theorem zbdr {x:AV} {n:Int} (h:aU x=some n):x=.val (.int .u8 n):=by
 unfold aU at h;split at h
 ·cases h;rfl
 ·cases h
theorem zbds {x:AV} {n:Int} (h:aI x=some n):x=.i n:=by
 unfold aI at h;split at h
 ·cases h;rfl
 ·cases h
theorem zbdt {x:AV} {n:ByteArray} (h:aS x=some n):x=.s n:=by
 unfold aS at h;split at h
 ·cases h;rfl
 ·cases h
theorem zbdu {x:AV} {n:Bool} (h:aB x=some n):x=.b n:=by
 unfold aB at h;split at h
 ·cases h;rfl
 ·cases h
theorem zayj {C:Cx} {x:AV} {l:List Power} {v:Value} (h:aPs x=some l) (hr:Rd C x v):Rd C (.sl (.powers l)) v:=by
 unfold aPs at h;split at h
 ·cases h;exact hr
 ·cases h;cases hr;exact .slnil rfl
 ·cases h
theorem zayk {C:Cx} {x:AV} {l:List Int} {v:Value} (h:aIs x=some l) (hr:Rd C x v):Rd C (.sl (.ints l)) v:=by
 unfold aIs at h;split at h
 ·cases h;exact hr
 ·cases h;cases hr;exact .slnil rfl
 ·cases h
def Conv (C:Cx) (xs ys:List AV):Prop:=∀ vs,Rds C xs vs→Rds C ys vs
theorem ziu {C:Cx}:Conv C [] []:=fun _ h=>h
theorem zt {C:Cx} {x y:AV} {xs ys:List AV} (h:∀ v,Rd C x v→Rd C y v) (hs:Conv C xs ys):Conv C (x::xs) (y::ys):=fun vs hv=>by
 obtain ⟨v,vs',rfl,h1,h2⟩:=hv.uncons
 exact .cons (h v h1) (hs vs' h2)
theorem zatn {n:Int} (h:0≤n∧n < 256):(((UInt8.ofNat n.toNat).toNat:Nat):Int)=n:=by
 rw[UInt8.toNat_ofNat']
 omega
theorem zgz {C:Cx} {x:AV} {n:Int} {v:Value} (h:aI x=some n) (hr:Rd C x v):Rd C (.i n) v:=by rw[zbds h] at hr;exact hr
theorem za0w {C:Cx} {x:AV} {n:ByteArray} {v:Value} (h:aS x=some n) (hr:Rd C x v):Rd C (.s n) v:=by rw[zbdt h] at hr;exact hr
theorem za4o {C:Cx} {x:AV} {n:Bool} {v:Value} (h:aB x=some n) (hr:Rd C x v):Rd C (.b n) v:=by rw[zbdu h] at hr;exact hr
def z9a:List AV→Option Power
 | [a,b]=>do pure ⟨← aI a,← aI b⟩
 | _=>none
theorem zrc {cs:List AV} {p:Power} (h:z9a cs=some p):cs.length=2∧∀ C,Conv C cs p.cells:=by
 unfold z9a at h
 split at h
 ·simp only[bind,Option.bind_eq_some_iff,pure,yy1] at h
  obtain ⟨n0,h0,n1,h1,rfl⟩:=h
  exact ⟨rfl,fun C=>(zt (fun _ q=>zgz h0 q) (zt (fun _ q=>zgz h1 q) ziu))⟩
 ·cases h
def z4l:List AV→Option Packet
 | [a,b,c,d,p,q]=>do pure ⟨← aI a,← aI b,← aI c,← aI d,← aPs p,← aIs q⟩
 | _=>none
theorem zo5 {cs:List AV} {p:Packet} (h:z4l cs=some p):cs.length=6∧∀ C,Conv C cs p.cells:=by
 unfold z4l at h
 split at h
 ·simp only[bind,Option.bind_eq_some_iff,pure,yy1] at h
  obtain ⟨n0,h0,n1,h1,n2,h2,n3,h3,n4,h4,n5,h5,rfl⟩:=h
  exact ⟨rfl,fun C=>(zt (fun _ q=>zgz h0 q) (zt (fun _ q=>zgz h1 q) (zt (fun _ q=>zgz h2 q) (zt (fun _ q=>zgz h3 q) (zt (fun _ q=>zayj h4 q) (zt (fun _ q=>zayk h5 q) ziu))))))⟩
 ·cases h
def zae8:List AV→Option Wait
 | [a,b,c,d,e,f,g,j]=>do pure ⟨← aI a,← aI b,← aI c,← aI d,← aI e,← aI f,← aI g,← aI j⟩
 | _=>none
theorem zt0 {cs:List AV} {p:Wait} (h:zae8 cs=some p):cs.length=8∧∀ C,Conv C cs p.cells:=by
 unfold zae8 at h
 split at h
 ·simp only[bind,Option.bind_eq_some_iff,pure,yy1] at h
  obtain ⟨n0,h0,n1,h1,n2,h2,n3,h3,n4,h4,n5,h5,n6,h6,n7,h7,rfl⟩:=h
  exact ⟨rfl,fun C=>(zt (fun _ q=>zgz h0 q) (zt (fun _ q=>zgz h1 q) (zt (fun _ q=>zgz h2 q) (zt (fun _ q=>zgz h3 q) (zt (fun _ q=>zgz h4 q) (zt (fun _ q=>zgz h5 q) (zt (fun _ q=>zgz h6 q) (zt (fun _ q=>zgz h7 q) ziu))))))))⟩
 ·cases h
def z9b:List AV→Option Asked
 | [x,a,b,c,d,p,q]=>do pure ⟨← aI x,⟨← aI a,← aI b,← aI c,← aI d,← aPs p,← aIs q⟩⟩
 | _=>none
theorem zrd {cs:List AV} {p:Asked} (h:z9b cs=some p):cs.length=7∧∀ C,Conv C cs p.cells:=by
 unfold z9b at h
 split at h
 ·simp only[bind,Option.bind_eq_some_iff,pure,yy1] at h
  obtain ⟨n0,h0,n1,h1,n2,h2,n3,h3,n4,h4,n5,h5,n6,h6,rfl⟩:=h
  exact ⟨rfl,fun C=>(zt (fun _ q=>zgz h0 q) (zt (fun _ q=>zgz h1 q) (zt (fun _ q=>zgz h2 q) (zt (fun _ q=>zgz h3 q) (zt (fun _ q=>zgz h4 q) (zt (fun _ q=>zayj h5 q) (zt (fun _ q=>zayk h6 q) ziu)))))))⟩
 ·cases h
def zae9:List AV→Option Ripe
 | [a,b]=>do pure ⟨← aI a,← aI b⟩
 | _=>none
theorem zt1 {cs:List AV} {p:Ripe} (h:zae9 cs=some p):cs.length=2∧∀ C,Conv C cs p.cells:=by
 unfold zae9 at h
 split at h
 ·simp only[bind,Option.bind_eq_some_iff,pure,yy1] at h
  obtain ⟨n0,h0,n1,h1,rfl⟩:=h
  exact ⟨rfl,fun C=>(zt (fun _ q=>zgz h0 q) (zt (fun _ q=>zgz h1 q) ziu))⟩
 ·cases h
def zafa:List AV→Option Deed
 | [a,b,c,d,e,f,g]=>do pure ⟨← aI a,← aI b,← aI c,← aI d,← aI e,← aB f,← aB g⟩
 | _=>none
theorem zt2 {cs:List AV} {p:Deed} (h:zafa cs=some p):cs.length=7∧∀ C,Conv C cs p.cells:=by
 unfold zafa at h
 split at h
 ·simp only[bind,Option.bind_eq_some_iff,pure,yy1] at h
  obtain ⟨n0,h0,n1,h1,n2,h2,n3,h3,n4,h4,n5,h5,n6,h6,rfl⟩:=h
  exact ⟨rfl,fun C=>(zt (fun _ q=>zgz h0 q) (zt (fun _ q=>zgz h1 q) (zt (fun _ q=>zgz h2 q) (zt (fun _ q=>zgz h3 q) (zt (fun _ q=>zgz h4 q) (zt (fun _ q=>za4o h5 q) (zt (fun _ q=>za4o h6 q) ziu)))))))⟩
 ·cases h
def z9c:List AV→Option Reply
 | [a,b]=>do pure ⟨← aI a,← aI b⟩
 | _=>none
theorem zre {cs:List AV} {p:Reply} (h:z9c cs=some p):cs.length=2∧∀ C,Conv C cs p.cells:=by
 unfold z9c at h
 split at h
 ·simp only[bind,Option.bind_eq_some_iff,pure,yy1] at h
  obtain ⟨n0,h0,n1,h1,rfl⟩:=h
  exact ⟨rfl,fun C=>(zt (fun _ q=>zgz h0 q) (zt (fun _ q=>zgz h1 q) ziu))⟩
 ·cases h
def z9d:List AV→Option Order
 | [a,b,c,d,e]=>do pure ⟨← aI a,← aI b,← aI c,← aI d,← aI e⟩
 | _=>none
theorem zrf {cs:List AV} {p:Order} (h:z9d cs=some p):cs.length=5∧∀ C,Conv C cs p.cells:=by
 unfold z9d at h
 split at h
 ·simp only[bind,Option.bind_eq_some_iff,pure,yy1] at h
  obtain ⟨n0,h0,n1,h1,n2,h2,n3,h3,n4,h4,rfl⟩:=h
  exact ⟨rfl,fun C=>(zt (fun _ q=>zgz h0 q) (zt (fun _ q=>zgz h1 q) (zt (fun _ q=>zgz h2 q) (zt (fun _ q=>zgz h3 q) (zt (fun _ q=>zgz h4 q) ziu)))))⟩
 ·cases h
def z9e:List AV→Option Carry
 | [a,b,c,d,e]=>do pure ⟨← aI a,← aI b,← aI c,← aI d,← aS e⟩
 | _=>none
theorem zrg {cs:List AV} {p:Carry} (h:z9e cs=some p):cs.length=5∧∀ C,Conv C cs p.cells:=by
 unfold z9e at h
 split at h
 ·simp only[bind,Option.bind_eq_some_iff,pure,yy1] at h
  obtain ⟨n0,h0,n1,h1,n2,h2,n3,h3,n4,h4,rfl⟩:=h
  exact ⟨rfl,fun C=>(zt (fun _ q=>zgz h0 q) (zt (fun _ q=>zgz h1 q) (zt (fun _ q=>zgz h2 q) (zt (fun _ q=>zgz h3 q) (zt (fun _ q=>za0w h4 q) ziu)))))⟩
 ·cases h
def Sl.push (s:Sl) (cs:List AV):Option (List Prop×Sl) :=
 match s with
 | .ints l=>match cs with
  | [a]=>(aI a).map fun n=>([],.ints (l++[n]))
  | _=>none
 | .strs l=>match cs with
  | [a]=>(aS a).map fun n=>([],.strs (l++[n]))
  | _=>none
 | .bytes l=>match cs with
  | [a]=>(aU a).map fun n=>([0≤n∧n < 256],.bytes (l++[UInt8.ofNat n.toNat]))
  | _=>none
 | .powers l=>(z9a cs).map fun p=>([],.powers (l++[p]))
 | .packets l=>(z4l cs).map fun p=>([],.packets (l++[p]))
 | .waits l=>(zae8 cs).map fun p=>([],.waits (l++[p]))
 | .asked l=>(z9b cs).map fun p=>([],.asked (l++[p]))
 | .ripes l=>(zae9 cs).map fun p=>([],.ripes (l++[p]))
 | .deeds l=>(zafa cs).map fun p=>([],.deeds (l++[p]))
 | .replies l=>(z9c cs).map fun p=>([],.replies (l++[p]))
 | .orders l=>(z9d cs).map fun p=>([],.orders (l++[p]))
 | .carries l=>(z9e cs).map fun p=>([],.carries (l++[p]))
 | .intss _=>none
def zw2:Nat→Sl→List AV→Option (List Prop×Sl)
 | 0,s,[]=>some ([],s)
 | n+1,s,cs=>match s.push (cs.take s.sz) with
  | some (ob,s')=>match zw2 n s' (cs.drop s.sz) with
   | some (ob',r)=>some (ob++ob',r)
   | none=>none
  | none=>none
 | _,_,_=>none
theorem allP_append {a b:List Prop}:z15 (a++b)↔z15 a∧z15 b:=by
 induction a with
 | nil=>simp[z15]
 | cons p a ih=>simp only[List.cons_append,z15,ih,and_assoc]
theorem z4m {α:Type} {l:List α} {x d:α}:(l++[x]).getD l.length d=x:=by
 rw[yy0,List.getElem?_append_right (Nat.le_refl _),Nat.sub_self];rfl
theorem zap8 {s r:Sl} {cs:List AV} {ob:List Prop} (h:s.push cs=some (ob,r)) (ho:z15 ob):r.len=s.len+1∧r.sz=s.sz∧cs.length=s.sz∧(∀ k c,k < s.len→r.cell k c=s.cell k c) ∧
  ∀ C,Conv C cs (r.row s.len):=by
 cases s<;>simp only[Sl.push,reduceCtorEq] at h
 ·split at h
  ·obtain ⟨n,hn,h⟩:=Option.map_eq_some_iff.1 h
   simp only[Prod.mk.injEq] at h
   obtain ⟨rfl,rfl⟩:=h
   refine ⟨by simp[Sl.len],rfl,rfl,fun k c hk=>by simp only[Sl.cell,Sl.row];rw[zn5 (by exact hk)],fun C=>?_⟩
   simp only[Sl.row,Sl.len,z4m]
   exact zt (fun _ q=>zgz hn q) ziu
  ·cases h
 ·split at h
  ·obtain ⟨n,hn,h⟩:=Option.map_eq_some_iff.1 h
   simp only[Prod.mk.injEq] at h
   obtain ⟨rfl,rfl⟩:=h
   refine ⟨by simp[Sl.len],rfl,rfl,fun k c hk=>by simp only[Sl.cell,Sl.row];rw[zn5 (by exact hk)],fun C=>?_⟩
   simp only[Sl.row,Sl.len,z4m]
   exact zt (fun _ q=>za0w hn q) ziu
  ·cases h
 ·split at h
  ·obtain ⟨n,hn,h⟩:=Option.map_eq_some_iff.1 h
   simp only[Prod.mk.injEq] at h
   obtain ⟨rfl,rfl⟩:=h
   refine ⟨by simp[Sl.len],rfl,rfl,fun k c hk=>by simp only[Sl.cell,Sl.row];rw[zn5 (by exact hk)],fun C=>?_⟩
   simp only[Sl.row,Sl.len,z4m]
   rw[zatn ho.1]
   exact zt (fun _ q=>by rw[zbdr hn] at q;exact q) ziu
  ·cases h
 all_goals
  obtain ⟨n,hn,h⟩:=Option.map_eq_some_iff.1 h
  simp only[Prod.mk.injEq] at h
  obtain ⟨rfl,rfl⟩:=h
  refine ⟨by simp[Sl.len],rfl,?_,fun k c hk=>by simp only[Sl.cell,Sl.row];rw[zn5 (by exact hk)],fun C=>?_⟩
  ·first | exact (zrc hn).1 | exact (zo5 hn).1 | exact (zt0 hn).1 | exact (zrd hn).1 | exact (zt1 hn).1 | exact (zt2 hn).1 | exact (zre hn).1 | exact (zrf hn).1 | exact (zrg hn).1
  ·simp only[Sl.row,Sl.len,z4m]
   first | exact (zrc hn).2 C | exact (zo5 hn).2 C | exact (zt0 hn).2 C | exact (zrd hn).2 C | exact (zt1 hn).2 C | exact (zt2 hn).2 C | exact (zre hn).2 C | exact (zrf hn).2 C | exact (zrg hn).2 C
theorem zzd:∀ (n:Nat) {s r:Sl} {cs:List AV} {ob:List Prop},zw2 n s cs=some (ob,r)→z15 ob→r.len=s.len+n∧r.sz=s.sz∧cs.length=n*s.sz∧(∀ k c,k < s.len→r.cell k c=s.cell k c) ∧
  ∀ C vs,Rds C cs vs→∀ k c,k < n→c < s.sz→Rd C (r.cell (s.len+k) c) (vs.getD (k*s.sz+c) undef)
 | 0,s,r,cs,ob,h,_=>by
  cases cs with
  | nil =>
   simp only[zw2,yy1,Prod.mk.injEq] at h
   obtain ⟨_,rfl⟩:=h
   exact ⟨rfl,rfl,by simp,fun _ _ _=>rfl,fun _ _ _ k c hk=>by omega⟩
  | cons x xs=>simp[zw2] at h
 | n+1,s,r,cs,ob,h,ho=>by
  unfold zw2 at h
  split at h
  ·rename_i ob1 s1 h1
   split at h
   ·rename_i ob2 r2 h2
    simp only[yy1,Prod.mk.injEq] at h
    obtain ⟨rfl,rfl⟩:=h
    obtain ⟨o1,o2⟩:=allP_append.1 ho
    obtain ⟨a1,a2,a3,a4,a5⟩:=zap8 h1 o1
    obtain ⟨b1,b2,b3,b4,b5⟩:=zzd n h2 o2
    have hz:=zt3 s
    have htk:s.sz≤cs.length:=by rw[List.length_take] at a3;omega
    refine ⟨by omega,by rw[b2,a2],?_,fun k c hk=>by rw[b4 k c (by omega),a4 k c hk],fun C vs hr k c hk hc=>?_⟩
    ·rw[List.length_drop,a2] at b3
     rw[Nat.add_mul,Nat.one_mul];omega
    ·by_cases h0:k=0
     ·subst h0
      have hc1:=a5 C _ (hr.take s.sz)
      have hc2:=hc1.2 c (by rw[Sl.row_length,a2];exact hc)
      rw[Nat.add_zero,b4 s.len c (by omega),Nat.zero_mul,Nat.zero_add]
      have e1:(vs.take s.sz).getD c undef=vs.getD c undef:=by
       rw[yy0,List.getElem?_take_of_lt hc,← yy0]
      rw[e1] at hc2
      exact hc2
     ·obtain ⟨q,rfl⟩:∃ q,k=q+1:=⟨k - 1,by omega⟩
      have:=b5 C _ (hr.drop s.sz) q c (by omega) (by rw[a2];exact hc)
      rw[a1,a2,yy0,List.getElem?_drop,← yy0] at this
      have e1:s.sz+(q*s.sz+c)=(q+1)*s.sz+c:=by rw[Nat.add_mul,Nat.one_mul];omega
      rw[e1] at this
      rw[show s.len+(q+1)=s.len+1+q by omega]
      exact this
   ·cases h
  ·cases h
def z90 (z:Value) (n:Nat):Array Value:=(Array.range n).map (z.cells[· % z.cells.size]!)
theorem z4n {P:Program} (w:World) (t e:TypeId) (len:Nat) (parts:Array (Nat×Value)) (cells:Array Value) (ie:TypeInfo) (z:Value)
  (hu:P.underlying t=some (.slice e)) (hie:P.info? e=some ie) (hz:ie.zero=some z) (hsmall:¬ len*ie.size > 2 ^ 24)
  (h:Instr.fill (fun i=>some (i*ie.size,ie.size)) (z90 z (len*ie.size)) parts.toList=some cells) :
  (Instr.buildSlice t len parts).run P w=.ok (.slice (some ⟨w.heap.size,0,none⟩) len len) (w.alloc (.cells cells e)):=by
 by_cases hpos:len*ie.size=0
 ·have h':Instr.fill (fun i=>some (i*ie.size,ie.size)) #[] parts.toList=some cells:=by
   have e0:Array.range 0=#[]:=rfl
   unfold z90 at h;rw[hpos,e0,Array.map_empty] at h;exact h
  have e0:Array.range 0=#[]:=rfl
  simp[Instr.buildSlice,run_underlying hu,sizeOf,typeInfo,hie,hpos,e0,h',newRow]
 ·exact run_buildSlice w t e len parts cells ie z hu hie hz hsmall hpos h
theorem z91 {P:Program} {G:Gl} {blks:List Blk} {nu:Nat→Option Value} {w:World} (h:MInv G blks nu w) {o:Oper} {t E:TypeId} {len bytes:Nat} {parts:Array (Nat×Operand)} {e:Operand→Value} {g:Operand→AV}
  {s r:Sl} {z:Value} {cs:List AV} {ob:List Prop} {id:Nat} (ho:o.op=.buildSlice t len parts) (hg:∀ x,Rd (cx G blks nu w) (g x) (e x)) (hi:z2y P t=some (E,s.sz,bytes)) (hz:(P.info? E).bind (·.zero)=some z)
  (h0:s.len=0) (hfill:zw6 (fun i=>some (i*s.sz,s.sz)) ((z90 z (len*s.sz)).toList.map .val) (parts.toList.map fun p=>(p.1,g p.2))=some cs) (hpush:zw2 len s cs=some (ob,r)) (hob:z15 ob)
  (hsmall:len*s.sz≤16777216) (hf:blks.getD id .dead=.free):Does P o e w (zln G blks nu w ⟨ob,.own id,[(id,.rows E r)]⟩):=by
 obtain ⟨hT,i,z',hi1,hz',hzs,hsz,hby,hpos⟩:=zzc hi
 rw[hi1] at hz
 simp only[Option.bind_some,hz',yy1] at hz
 subst hz
 obtain ⟨cells,h1,h2⟩:=zw7 (C:=cx G blks nu w) (parts.toList.map fun p=>(p.1,g p.2)) (parts.toList.map fun p=>(p.1,e p.2)) _ cs (z90 z' (len*s.sz)) (by simp)
  (fun i p q hi hj=>by
   rw[List.getElem?_map] at hi hj
   cases hk:parts.toList[i]? with
   | none=>rw[hk] at hi;cases hi
   | some r =>
    rw[hk] at hi hj
    simp only[Option.map_some,yy1] at hi hj
    subst hi;subst hj
    exact ⟨rfl,hg _⟩) (z4y _ _) hfill
 obtain ⟨a1,a2,a3,_,a5⟩:=zzd len hpush hob
 have hlen:cells.size=len*s.sz:=by rw[← Array.length_toList,h2.1,a3]
 have hz0:=zt3 s
 have hlm:len≤maxLen:=by
  have:len≤len*s.sz:=Nat.le_mul_of_pos_right _ hz0
  unfold maxLen;omega
 have hrun:=z4n w t E len (parts.map fun (i,x)=>(i,e x)) cells i z' hT hi1 hz' (by rw[hsz];omega) (by rw[hsz];simpa using h1)
 have hown:(w.alloc (.cells cells E)).ownsRow 0 E r.sz (.slice (some ⟨w.heap.size,0,none⟩) len len) r.len cells.toList:=by
  have:=World.ownsRow_lit (base:=0) (e:=E) (size:=s.sz) w cells len (Nat.zero_le _) hlm hlen
  rw[a1,a2,h0,Nat.zero_add];exact this
 obtain ⟨nu',k1,k2,k3⟩:=h.putRow (blks1:=blks) (old:=none) (row:=none) (w':=w.alloc (.cells cells E)) hf rfl (fun _ _ _=>rfl) (fun _ h=>by cases h) hown (by rw[a1,h0];omega)
  (fun C' hle k c hk hc=>by
   rw[a1,h0,Nat.zero_add] at hk
   rw[a2] at hc ⊢
   have:=a5 _ _ h2 k c hk hc
   rw[h0,Nat.zero_add] at this
   exact this.mono hle) (World.grownBy_alloc w _ none) (fun b hb=>by cases hb) (.inr fun b hb=>by simp only[zfq,yy1] at hb;omega)
 refine Does.value (v:=.slice (some ⟨w.heap.size,0,none⟩) len len) (w':=w.alloc (.cells cells E)) ?_ ⟨nu',k1,k2,.own k3⟩
 simp only[execOp,ho,Sem.run_bind,hrun,Result.andThen_ok,Sem.run_pure]
