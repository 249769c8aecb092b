/-
  The walk over abstract states.
-/
import Derived.Test.YtobfadhgiaphnaaGreatXAbStr
namespace Go.Proofs.YtobfadhgiaphnaaGreat.Ab
open Go Go.RowKit
set_option linter.unusedSimpArgs false
set_option linter.unusedVariables false
def Sl.put (s:Sl) (k:Nat) (cs:List AV):Option Sl :=
 match s with
 | .ints l=>match cs with
  | [a]=>(aI a).map fun n=>.ints (l.set k n)
  | _=>none
 | .strs l=>match cs with
  | [a]=>(aS a).map fun n=>.strs (l.set k n)
  | _=>none
 | .powers l=>(z9a cs).map fun p=>.powers (l.set k p)
 | .packets l=>(z4l cs).map fun p=>.packets (l.set k p)
 | .waits l=>(zae8 cs).map fun p=>.waits (l.set k p)
 | .asked l=>(z9b cs).map fun p=>.asked (l.set k p)
 | .ripes l=>(zae9 cs).map fun p=>.ripes (l.set k p)
 | .deeds l=>(zafa cs).map fun p=>.deeds (l.set k p)
 | .replies l=>(z9c cs).map fun p=>.replies (l.set k p)
 | .orders l=>(z9d cs).map fun p=>.orders (l.set k p)
 | .carries l=>(z9e cs).map fun p=>.carries (l.set k p)
 | _=>none
theorem z3d {α:Type} {l:List α} {k:Nat} {x d:α} (h:k < l.length):(l.set k x).getD k d=x:=by
 rw[yy0,List.getElem?_set_self h];rfl
theorem zzj {α:Type} {l:List α} {k i:Nat} {x d:α} (h:i≠k):(l.set k x).getD i d=l.getD i d:=by
 rw[yy0,List.getElem?_set_ne (fun e=>h e.symm),← yy0]
theorem zat7 {s r:Sl} {k:Nat} {cs:List AV} (h:s.put k cs=some r) (hk:k < s.len):r.len=s.len∧r.sz=s.sz∧cs.length=s.sz∧(∀ i c,i≠k→r.cell i c=s.cell i c)∧∀ C,Conv C cs (r.row k):=by
 cases s<;>simp only[Sl.put,reduceCtorEq] at h<;>simp only[Sl.len] at hk
 ·split at h
  ·obtain ⟨n,hn,h⟩:=Option.map_eq_some_iff.1 h
   subst h
   refine ⟨by simp[Sl.len],rfl,rfl,fun i c hi=>by simp only[Sl.cell,Sl.row];rw[zzj hi],fun C=>?_⟩
   simp only[Sl.row,z3d hk]
   exact zt (fun _ q=>zgz hn q) ziu
  ·cases h
 ·split at h
  ·obtain ⟨n,hn,h⟩:=Option.map_eq_some_iff.1 h
   subst h
   refine ⟨by simp[Sl.len],rfl,rfl,fun i c hi=>by simp only[Sl.cell,Sl.row];rw[zzj hi],fun C=>?_⟩
   simp only[Sl.row,z3d hk]
   exact zt (fun _ q=>za0w hn q) ziu
  ·cases h
 all_goals
  obtain ⟨n,hn,h⟩:=Option.map_eq_some_iff.1 h
  subst h
  refine ⟨by simp[Sl.len],rfl,?_,fun i c hi=>by simp only[Sl.cell,Sl.row];rw[zzj hi],fun C=>?_⟩
  ·first | exact (zrc hn).1 | exact (zo5 hn).1 | exact (zt0 hn).1 | exact (zrd hn).1 | exact (zt1 hn).1 | exact (zt2 hn).1 | exact (zre hn).1 | exact (zrf hn).1 | exact (zrg hn).1
  ·simp only[Sl.row,z3d hk]
   first | exact (zrc hn).2 C | exact (zo5 hn).2 C | exact (zt0 hn).2 C | exact (zrd hn).2 C | exact (zt1 hn).2 C | exact (zt2 hn).2 C | exact (zre hn).2 C | exact (zrf hn).2 C | exact (zrg hn).2 C
theorem zr5? {α:Type} {l us:List α} {p:Nat} (h:p+us.length≤l.length) (q:Nat) :
  (l.take p++us++l.drop (p+us.length))[q]?=if q < p then l[q]? else if q < p+us.length then us[q - p]? else l[q]?:=by
 have hp:(l.take p).length=p:=by rw[List.length_take];omega
 by_cases h1:q < p
 ·rw[if_pos h1,List.append_assoc,List.getElem?_append_left (by rw[hp];exact h1),List.getElem?_take_of_lt h1]
 ·rw[if_neg h1]
  by_cases h2:q < p+us.length
  ·rw[if_pos h2,List.append_assoc,List.getElem?_append_right (by rw[hp];omega),List.getElem?_append_left (by rw[hp];omega),hp]
  ·rw[if_neg h2,List.getElem?_append_right (by rw[yy6,hp];omega),yy6,hp,List.getElem?_drop]
   congr 1;omega
theorem zrk {α:Type} {l us:List α} {p:Nat} (h:p+us.length≤l.length):(l.take p++us++l.drop (p+us.length)).length=l.length:=by
 simp only[yy6,List.length_take,List.length_drop];omega
theorem zaak {α:Type} {l us:List α} {p m:Nat} (h:p+us.length≤m) (hm:m≤l.length) :
  (l.take p++us++l.drop (p+us.length)).take m=(l.take m).take p++us++(l.take m).drop (p+us.length):=by
 have hml:(l.take m).length=m:=by rw[List.length_take];omega
 apply List.ext_getElem?
 intro q
 rw[zr5? (l:=l.take m) (by rw[hml];exact h)]
 by_cases hq:q < m
 ·rw[List.getElem?_take_of_lt hq,zr5? (by omega),List.getElem?_take_of_lt hq]
 ·rw[List.getElem?_eq_none (by rw[List.length_take];omega),if_neg (by omega),if_neg (by omega),List.getElem?_eq_none (by omega)]
section sound
variable {P:Program} {G:Gl} {blks:List Blk} {nu:Nat→Option Value} {w:World} (h:MInv G blks nu w)
include h
theorem zaf4 {o:Oper} {T E F:TypeId} {x y:Operand} {e:Operand→Value} {j:Nat} {s:Sl} {k:IntKind} {i:Int} (ho:o.op=.indexAddr T x y)
  (hx:Rd (cx G blks nu w) (.own j) (e x)) (hb:blks.getD j .dead=.rows F s) (hy:Rd (cx G blks nu w) (.val (.int k i)) (e y)) (hT:P.underlying T=some (.slice E)) (hn:zr P (sizeOf E)=some s.sz)
  (hi:0≤i∧i < (s.len:Int)):Does P o e w (zln G blks nu w ⟨[0≤i∧i < (s.len:Int)],.rptr j s.sz 0 i,[]⟩):=by
 have hk:=h.ok j
 rw[hb] at hk
 obtain ⟨v,vs,e1,e2,e3,e4⟩:=hk
 generalize hv:e x=u at hx
 generalize hw:e y=b at hy
 cases hy
 cases hx with
 | own hn2 =>
  have:u=v:=by have:=hn2.symm.trans e1;simpa using this
  subst this
  rcases e2.2 with ⟨_,h0⟩ | ⟨g,cap,cur,rfl,_,_⟩
  ·omega
  ·refine Does.value (v:=.pointer (some ((⟨g,0,none⟩:Addr).add (i.toNat*s.sz)))) (w':=w) ?_ ⟨nu,.refl _,h,?_⟩
   ·simp[execOp,ho,hv,hw,Instr.indexAt,asIntOf,run_underlying hT,hi,zq hn w]
   ·rw[zaq,Nat.zero_add]
    exact Rd.rptr (off:=0) hn2 hi
omit h in
theorem z40 {C:Cx} {base:Nat} {E:TypeId} {s:Sl} {g n cap:Nat} {vs:List Value} (e2:C.w.ownsRow base E s.sz (.slice (some ⟨g,0,none⟩) n cap) s.len vs):n=s.len∧vs.length=s.len*s.sz ∧
  ∃ cur,C.w.heap[g]?=some (.cells cur E (0,0))∧s.len*s.sz≤cur.size∧cur.toList.take (s.len*s.sz)=vs∧s.len≤cap∧cap≤maxLen∧cur.size=cap*s.sz:=by
 obtain ⟨q1,q2⟩:=e2
 rcases q2 with ⟨q3,_⟩ | ⟨g',cap',cur,q3,_,q4,q5,q6,q7,q8⟩
 ·cases q3
 ·simp only[Value.slice.injEq,yy1,Addr.mk.injEq,and_true] at q3
  obtain ⟨rfl,rfl,rfl⟩:=q3
  exact ⟨rfl,q1,cur,q4,by rw[q7];exact Nat.mul_le_mul_right _ q5,q8,q5,q6,q7⟩
theorem zacx {o:Oper} {T F:TypeId} {x:Operand} {e:Operand→Value} {j sz off:Nat} {i:Int} {s:Sl} {t:Bool} {n:Nat} (ho:o.op=.load T x)
  (hx:Rd (cx G blks nu w) (.rptr j sz off i) (e x)) (hb:blks.getD j .dead=.rows F s) (hsz:sz=s.sz) (ht:zr P (isAgg T)=some t) (hn:zr P (sizeOf T)=some n)
  (h1:t=false→n=1) (hl:(((s.row i.toNat).drop off).take n).length=n):Does P o e w (zln G blks nu w ⟨[],zq3 t (((s.row i.toNat).drop off).take n),[]⟩):=by
 subst hsz
 have hk:=h.ok j
 rw[hb] at hk
 obtain ⟨v,vs,e1,e2,e3,e4⟩:=hk
 generalize hv:e x=u at hx
 cases hx with
 | @rptr _ _ _ g m cap _ hnj hi =>
  have:v=.slice (some ⟨g,0,none⟩) m cap:=by have:=e1.symm.trans hnj;simpa using this
  subst this
  obtain ⟨rfl,hvl,cur,hg,hcs,htk,_⟩:=z40 (C:=cx G blks nu w) e2
  have hlen:off+n≤s.sz∨n=0:=by
   rw[List.length_take,List.length_drop,Sl.row_length] at hl
   omega
  have hk:i.toNat < s.len:=by omega
  have hin:∀ c,c < n→i.toNat*s.sz+(off+c) < vs.length:=fun c hc=>by
   rw[hvl]
   calc i.toNat*s.sz+(off+c) < i.toNat*s.sz+s.sz:=by omega
    _=(i.toNat+1)*s.sz:=by rw[Nat.add_mul,Nat.one_mul]
    _≤s.len*s.sz:=Nat.mul_le_mul_right _ hk
  have hr:Rds (cx G blks nu w) (((s.row i.toNat).drop off).take n) ((vs.drop (i.toNat*s.sz+off)).take n):=by
   refine ⟨?_,fun c hc=>?_⟩
   ·rw[hl,List.length_take,List.length_drop]
    rcases Nat.eq_zero_or_pos n with h0 | h0
    ·omega
    ·have:=hin (n - 1) (by omega);omega
   ·rw[hl] at hc
    have:=e3 i.toNat (off+c) hk (by omega)
    unfold Sl.cell at this
    rw[yy0 (l:=((s.row i.toNat).drop off).take n),List.getElem?_take_of_lt hc,List.getElem?_drop,← yy0]
    rw[yy0 (l:=(vs.drop (i.toNat*s.sz+off)).take n),List.getElem?_take_of_lt hc,List.getElem?_drop,← yy0,Nat.add_assoc]
    exact this
  have hrun:=zem (w:=w) ht hn ⟨g,i.toNat*s.sz+off,none⟩ ((vs.drop (i.toNat*s.sz+off)).take n) (by rw[hr.1];exact hl) h1 (fun c u hc=>by
   have hcn:c < n:=by have:=(List.getElem?_eq_some_iff.1 hc).1;simp at this;omega
   rw[zaq,cell_of_row w g (i.toNat*s.sz+off+c) cur F (0,0) hg]
   rw[List.getElem?_take_of_lt hcn,List.getElem?_drop] at hc
   have hlt:=hin c hcn
   rw[← htk,List.getElem?_take_of_lt (by rw[hvl] at hlt;omega)] at hc
   simpa using hc)
  refine Does.value (v:=if t then .agg ((vs.drop (i.toNat*s.sz+off)).take n).toArray else ((vs.drop (i.toNat*s.sz+off)).take n).getD 0 undef) (w':=w) ?_ (za8 h (zkr hr (fun ht=>by rw[hl];exact h1 ht)))
  simp[execOp,ho,Instr.loadAt,Instr.sureAddr,hv,hrun]
theorem MInv.rewrite {j g cap:Nat} {E:TypeId} {s r:Sl} {vs':List Value} {w':World} (hb:blks.getD j .dead=.rows E s) (hnj:nu j=some (.slice (some ⟨g,0,none⟩) s.len cap)) (hlen:r.len=s.len) (hsz:r.sz=s.sz)
  (hown:w'.ownsRow 0 E s.sz (.slice (some ⟨g,0,none⟩) s.len cap) s.len vs') (hrd:∀ C',(cx G blks nu w).Le C'→∀ k c,k < r.len→c < r.sz→Rd C' (r.cell k c) (vs'.getD (k*r.sz+c) undef)) (hm:s.len≤maxLen)
  (hw:∀ k,k≠g→w'.heap[k]?=w.heap[k]?) (hsize:w'.heap.size=w.heap.size) (hos:w'.os=w.os) (ht:w'.tape=w.tape) (ho:w'.output=w.output) :
  (cx G blks nu w).Le (cx G (blks.set j (.rows E r)) nu w')∧MInv G (blks.set j (.rows E r)) nu w':=by
 have hj:j < blks.length:=by
  rcases Nat.lt_or_ge j blks.length with h1 | h1
  ·exact h1
  ·rw[yy0,List.getElem?_eq_none h1] at hb;cases hb
 have hl:(blks.getD j .dead).live=true:=by rw[hb];rfl
 refine h.step (fun i=>i=j) (fun _ _ h=>h) (fun k hk hn=>hw k fun e=>?_) (by omega) hos ht ho (fun i hi=>getD_set_ne (fun e=>hi e.symm)) (fun _ _=>rfl)
  (fun hle i hi=>?_) (fun i v k hi _ hv hk=>?_) (fun i i' v v' b hne hi hi'=>(hne (hi.trans hi'.symm)).elim)
 ·exact hn j _ rfl hl hnj (by simp[zfq,e])
 ·subst hi
  rw[z9 hj]
  exact ⟨_,vs',hnj,by rw[hsz,hlen];exact hown,hrd _ hle,by omega⟩
 ·have:=h.low j v k hl (hi ▸ hv) hk
  exact ⟨by omega,.inr ⟨j,v,rfl,hl,hi ▸ hv,hk⟩⟩
theorem z16 {o:Oper} {T F:TypeId} {x y:Operand} {e:Operand→Value} {j off g m cap:Nat} {i:Int} {s r:Sl} {c:AV} {row':List AV} {n:Nat} (ho:o.op=.store T x y)
  (hv:e x=.pointer (some ⟨g,i.toNat*s.sz+off,none⟩)) (hnj:nu j=some (.slice (some ⟨g,0,none⟩) m cap)) (hi:0≤i∧i < (m:Int)) (hy:Rd (cx G blks nu w) c (e y)) (hb:blks.getD j .dead=.rows F s) (hn:zr P (sizeOf T)=some n)
  (hc:(zap c).all (one fun j=>blks.getD j .dead)=true) (hl:(zap c).length=n) (hfit:off+n≤s.sz)
  (hnew0:∀ us rv,Rds (cx G blks nu w) (zap c) us→rv.length=s.sz→Rds (cx G blks nu w) (s.row i.toNat) rv→Rds (cx G blks nu w) row' (rv.take off++us++rv.drop (off+n)))
  (hp:s.put i.toNat row'=some r) :
  Does P o e w (zln G blks nu w ⟨[],.any,[(j,.rows F r)]⟩):=by
 obtain ⟨k1,k2⟩:=z3c h hy hc
 have hk:=h.ok j
 rw[hb] at hk
 obtain ⟨v,vs,e1,e2,e3,e4⟩:=hk
 ·have:v=.slice (some ⟨g,0,none⟩) m cap:=by have:=e1.symm.trans hnj;simpa using this
  subst this
  obtain ⟨rfl,hvl,cur,hg,hcs,htk,hcap1,hcap2,hcap3⟩:=z40 (C:=cx G blks nu w) e2
  have hik:i.toNat < s.len:=by omega
  obtain ⟨p1,p2,p3,p4,p5⟩:=zat7 hp hik
  have hlen:(e y).cells.toList.length=n:=by rw[k1.1];exact hl
  have hA:i.toNat*s.sz+off+n≤vs.length:=by
   rw[hvl]
   calc i.toNat*s.sz+off+n≤i.toNat*s.sz+s.sz:=by omega
    _=(i.toNat+1)*s.sz:=by rw[Nat.add_mul,Nat.one_mul]
    _≤s.len*s.sz:=Nat.mul_le_mul_right _ hik
  have hAc:i.toNat*s.sz+off+n≤cur.size:=by omega
  have hst:=run_storeCells_at P g (i.toNat*s.sz+off) F (e y).cells.toList 0 cur w hg (by simp only[Nat.add_zero];rw[hlen];exact hAc) k2
  simp only[Nat.add_zero,hlen] at hst
  generalize hus:(e y).cells.toList=us at *
  generalize hAd:i.toNat*s.sz+off=A at *
  have hAus:A+us.length≤vs.length:=by omega
  have hcl:cur.toList.length=cur.size:=Array.length_toList
  have hAcu:A+us.length≤cur.toList.length:=by rw[hcl];omega
  generalize hcur':(cur.toList.take A++us++cur.toList.drop (A+n))=cur' at hst
  rw[← hlen] at hcur'
  have hcurlen:cur'.length=cur.size:=by rw[← hcur',zrk hAcu,hcl]
  generalize hvs':(vs.take A++us++vs.drop (A+us.length))=vs'
  have hvlen:vs'.length=vs.length:=by rw[← hvs',zrk hAus]
  have htk':cur'.take (s.len*s.sz)=vs':=by
   rw[← hcur',← hvs',← htk]
   exact zaak (by rw[← hvl];exact hAus) (by rw[hcl];exact hcs)
  let w':=w.setRow g cur'.toArray
  have hg':w'.heap[g]?=some (.cells cur'.toArray F (0,0)):=setRow_heap w g _ _ F _ hg
  have hown':w'.ownsRow 0 F s.sz (.slice (some ⟨g,0,none⟩) s.len cap) s.len vs':=by
   refine ⟨by rw[hvlen,hvl],.inr ⟨g,cap,cur'.toArray,rfl,Nat.zero_le _,hg',hcap1,hcap2,?_,?_⟩⟩
   ·simp only[List.size_toArray];rw[hcurlen];exact hcap3
   ·simpa using htk'
  have hread:∀ C',(cx G blks nu w).Le C'→∀ k c,k < r.len→c < r.sz→Rd C' (r.cell k c) (vs'.getD (k*r.sz+c) undef):=by
   intro C' hle k c2 hk hc2
   rw[p1] at hk
   rw[p2] at hc2 ⊢
   have hkc:k*s.sz+c2 < vs.length:=by
    rw[hvl]
    calc k*s.sz+c2 < k*s.sz+s.sz:=by omega
     _=(k+1)*s.sz:=by rw[Nat.add_mul,Nat.one_mul]
     _≤s.len*s.sz:=Nat.mul_le_mul_right _ hk
   by_cases hki:k=i.toNat
   ·subst hki
    have hB:i.toNat*s.sz+s.sz≤vs.length:=by
     rw[hvl]
     calc i.toNat*s.sz+s.sz=(i.toNat+1)*s.sz:=by rw[Nat.add_mul,Nat.one_mul]
      _≤s.len*s.sz:=Nat.mul_le_mul_right _ hik
    have hrow:Rds (cx G blks nu w) (s.row i.toNat) ((vs.drop (i.toNat*s.sz)).take s.sz):=by
     refine ⟨by rw[Sl.row_length,List.length_take,List.length_drop];omega,fun c hc=>?_⟩
     rw[Sl.row_length] at hc
     have:=e3 i.toNat c hik hc
     rw[yy0 (l:=(vs.drop (i.toNat*s.sz)).take s.sz),List.getElem?_take_of_lt hc,List.getElem?_drop,← yy0]
     exact this
    have hrl:((vs.drop (i.toNat*s.sz)).take s.sz).length=s.sz:=by rw[hrow.1,Sl.row_length]
    have hnew:=hnew0 _ _ k1 hrl hrow
    have h5:=(p5 _ _ hnew).2 c2 (by rw[Sl.row_length,p2];exact hc2)
    have e5:(((vs.drop (i.toNat*s.sz)).take s.sz).take off++us++((vs.drop (i.toNat*s.sz)).take s.sz).drop (off+n)).getD c2 undef=vs'.getD (i.toNat*s.sz+c2) undef:=by
     rw[← hvs',← hlen,yy0,yy0,zr5? (by rw[hrl];omega),zr5? hAus,List.getElem?_take_of_lt hc2,List.getElem?_drop]
     congr 1
     by_cases h1:c2 < off
     ·have q1:i.toNat*s.sz+c2 < A:=by omega
      rw[if_pos h1,if_pos q1]
     ·have q1:¬ i.toNat*s.sz+c2 < A:=by omega
      rw[if_neg h1,if_neg q1]
      by_cases h2:c2 < off+us.length
      ·have q2:i.toNat*s.sz+c2 < A+us.length:=by omega
       rw[if_pos h2,if_pos q2]
       congr 1;omega
      ·have q2:¬ i.toNat*s.sz+c2 < A+us.length:=by omega
       rw[if_neg h2,if_neg q2]
    rw[e5] at h5
    exact Rd.mono hle h5
   ·rw[p4 k c2 hki]
    have h5:=e3 k c2 hk hc2
    have e5:vs.getD (k*s.sz+c2) undef=vs'.getD (k*s.sz+c2) undef:=by
     rw[← hvs',yy0,yy0,zr5? hAus]
     congr 1
     rcases Nat.lt_or_ge k i.toNat with hlt | hge
     ·have:k*s.sz+c2 < i.toNat*s.sz:=by
       calc k*s.sz+c2 < k*s.sz+s.sz:=by omega
        _=(k+1)*s.sz:=by rw[Nat.add_mul,Nat.one_mul]
        _≤i.toNat*s.sz:=Nat.mul_le_mul_right _ hlt
      have q1:k*s.sz+c2 < A:=by omega
      rw[if_pos q1]
     ·have:i.toNat*s.sz+s.sz≤k*s.sz:=by
       calc i.toNat*s.sz+s.sz=(i.toNat+1)*s.sz:=by rw[Nat.add_mul,Nat.one_mul]
        _≤k*s.sz:=Nat.mul_le_mul_right _ (by omega)
      have q1:¬ k*s.sz+c2 < A:=by omega
      have q2:¬ k*s.sz+c2 < A+us.length:=by omega
      rw[if_neg q1,if_neg q2]
    rw[e5] at h5
    exact h5.mono hle
  obtain ⟨m1,m2⟩:=MInv.rewrite h (w':=w') hb hnj p1 p2 hown' hread e4 (fun k hk=>setRow_other w g k _ hk) (by simp[w',World.setRow]) rfl rfl rfl
  refine Does.skip (w':=w') ?_ ⟨nu,by simpa[upd] using m1,by simpa[upd] using m2,.any⟩
  have hszn:((e y).cells.size≠n)=False:=by rw[← hlen,← hus];simp
  simp only[execOp,ho,Instr.storeAt,Instr.sureAddr,hv,Sem.run_bind,Sem.run_pure',Sem.run_pure,Result.andThen_ok,storeVar,zq hn w,hszn,if_false,hus,hst,Sem.run_ite]
  rfl
theorem zaal {o:Oper} {T F:TypeId} {x y:Operand} {e:Operand→Value} {j sz off:Nat} {i:Int} {s r:Sl} {c:AV} {n:Nat} (ho:o.op=.store T x y)
  (hx:Rd (cx G blks nu w) (.rptr j sz off i) (e x)) (hy:Rd (cx G blks nu w) c (e y)) (hb:blks.getD j .dead=.rows F s) (hsz:sz=s.sz) (hn:zr P (sizeOf T)=some n)
  (hc:(zap c).all (one fun j=>blks.getD j .dead)=true) (hl:(zap c).length=n) (hfit:off+n≤s.sz)
  (hp:s.put i.toNat ((s.row i.toNat).take off++zap c++(s.row i.toNat).drop (off+n))=some r) :
  Does P o e w (zln G blks nu w ⟨[],.any,[(j,.rows F r)]⟩):=by
 subst hsz
 generalize hv:e x=u at hx
 cases hx with
 | @rptr _ _ _ g m cap _ hnj hi=>exact z16 h ho hv hnj hi hy hb hn hc hl hfit (fun us rv k1 _ hrow=>((hrow.take off).append k1).append (hrow.drop _)) hp
theorem zaam {o:Oper} {T F:TypeId} {x y:Operand} {e:Operand→Value} {j sz off:Nat} {i:Int} {ix:List (Nat×Nat×Int)} {s r:Sl} {c:AV} {row':List AV} {n:Nat} (ho:o.op=.store T x y)
  (hx:Rd (cx G blks nu w) (.rpix j sz off i ix) (e x)) (hy:Rd (cx G blks nu w) c (e y)) (hb:blks.getD j .dead=.rows F s) (hsz:sz=s.sz) (hn:zr P (sizeOf T)=some n)
  (hc:(zap c).all (one fun j=>blks.getD j .dead)=true) (hl:(zap c).length=n) (h0:0 < n) (hfit:(zaah (s.row i.toNat) ix off n).isSome=true)
  (hq:zafs ix off (zap c) (s.row i.toNat)=some row') (hp:s.put i.toNat row'=some r) :
  Does P o e w (zln G blks nu w ⟨[],.any,[(j,.rows F r)]⟩):=by
 subst hsz
 generalize hv:e x=u at hx
 cases hx with
 | @rpix _ _ _ g m cap _ _ hnj hi hbx =>
  obtain ⟨xs,hxs⟩:=Option.isSome_iff_exists.1 hfit
  have hk:=h.ok j
  rw[hb] at hk
  obtain ⟨v,vs,e1,e2,e3,e4⟩:=hk
  have:v=.slice (some ⟨g,0,none⟩) m cap:=by have:=e1.symm.trans hnj;simpa using this
  subst this
  obtain ⟨rfl,hvl,_⟩:=z40 (C:=cx G blks nu w) e2
  have hik:i.toNat < s.len:=by omega
  have hB:i.toNat*s.sz+s.sz≤vs.length:=by
   rw[hvl]
   calc i.toNat*s.sz+s.sz=(i.toNat+1)*s.sz:=by rw[Nat.add_mul,Nat.one_mul]
    _≤s.len*s.sz:=Nat.mul_le_mul_right _ hik
  have hrow:Rds (cx G blks nu w) (s.row i.toNat) ((vs.drop (i.toNat*s.sz)).take s.sz):=by
   refine ⟨by rw[Sl.row_length,List.length_take,List.length_drop];omega,fun c hc=>?_⟩
   rw[Sl.row_length] at hc
   have:=e3 i.toNat c hik hc
   rw[yy0 (l:=(vs.drop (i.toNat*s.sz)).take s.sz),List.getElem?_take_of_lt hc,List.getElem?_drop,← yy0]
   exact this
  have hrl:((vs.drop (i.toNat*s.sz)).take s.sz).length=s.sz:=by rw[hrow.1,Sl.row_length]
  have h3:=(zzg hrow hbx hxs).2.2 (n - 1) (by omega)
  have hfits:off+ixN ix+n≤s.sz:=by omega
  refine z16 h ho (off:=off+ixN ix) (by rw[hv,Nat.add_assoc]) hnj hi hy hb hn hc hl hfits (fun us rv k1 hrv hrow'=>?_) hp
  have:=zaft hbx hq k1 hrow' (by rw[hl];omega)
  rw[hl] at this
  exact this
theorem zacy {o:Oper} {T F:TypeId} {x:Operand} {e:Operand→Value} {j sz off:Nat} {i:Int} {ix:List (Nat×Nat×Int)} {s:Sl} {xs:List AV} {t:Bool} {n:Nat} (ho:o.op=.load T x)
  (hx:Rd (cx G blks nu w) (.rpix j sz off i ix) (e x)) (hb:blks.getD j .dead=.rows F s) (hsz:sz=s.sz) (ht:zr P (isAgg T)=some t) (hn:zr P (sizeOf T)=some n)
  (h1:t=false→n=1) (hxs:zaah (s.row i.toNat) ix off n=some xs):Does P o e w (zln G blks nu w ⟨[],zq3 t xs,[]⟩):=by
 subst hsz
 have hk:=h.ok j
 rw[hb] at hk
 obtain ⟨v,vs,e1,e2,e3,e4⟩:=hk
 generalize hv:e x=u at hx
 cases hx with
 | @rpix _ _ _ g m cap _ _ hnj hi hbx =>
  have:v=.slice (some ⟨g,0,none⟩) m cap:=by have:=e1.symm.trans hnj;simpa using this
  subst this
  obtain ⟨rfl,hvl,cur,hg,hcs,htk,_⟩:=z40 (C:=cx G blks nu w) e2
  have hik:i.toNat < s.len:=by omega
  have hB:i.toNat*s.sz+s.sz≤vs.length:=by
   rw[hvl]
   calc i.toNat*s.sz+s.sz=(i.toNat+1)*s.sz:=by rw[Nat.add_mul,Nat.one_mul]
    _≤s.len*s.sz:=Nat.mul_le_mul_right _ hik
  have hrow:Rds (cx G blks nu w) (s.row i.toNat) ((vs.drop (i.toNat*s.sz)).take s.sz):=by
   refine ⟨by rw[Sl.row_length,List.length_take,List.length_drop];omega,fun c hc=>?_⟩
   rw[Sl.row_length] at hc
   have:=e3 i.toNat c hik hc
   rw[yy0 (l:=(vs.drop (i.toNat*s.sz)).take s.sz),List.getElem?_take_of_lt hc,List.getElem?_drop,← yy0]
   exact this
  have hrl:((vs.drop (i.toNat*s.sz)).take s.sz).length=s.sz:=by rw[hrow.1,Sl.row_length]
  obtain ⟨p1,p2,p3⟩:=zzg hrow hbx hxs
  have hrun:=zem (w:=w) ht hn ⟨g,i.toNat*s.sz+off+ixN ix,none⟩ ((((vs.drop (i.toNat*s.sz)).take s.sz).drop (off+ixN ix)).take n) (by rw[p2.1];exact p1) h1 (fun c u hc=>by
   have hcn:c < n:=by have:=(List.getElem?_eq_some_iff.1 hc).1;simp at this;omega
   have hlt:=p3 c hcn
   rw[hrl] at hlt
   rw[zaq,cell_of_row w g (i.toNat*s.sz+off+ixN ix+c) cur F (0,0) hg]
   rw[List.getElem?_take_of_lt hcn,List.getElem?_drop,List.getElem?_take_of_lt hlt,List.getElem?_drop,← htk,List.getElem?_take_of_lt (by rw[hvl] at hB;omega)] at hc
   rw[show i.toNat*s.sz+off+ixN ix+c=i.toNat*s.sz+(off+ixN ix+c) by omega]
   simpa using hc)
  refine Does.value (v:=if t then .agg ((((vs.drop (i.toNat*s.sz)).take s.sz).drop (off+ixN ix)).take n).toArray else ((((vs.drop (i.toNat*s.sz)).take s.sz).drop (off+ixN ix)).take n).getD 0 undef) (w':=w) ?_ (za8 h (zkr p2 (fun ht=>by rw[p1];exact h1 ht)))
  simp[execOp,ho,Instr.loadAt,Instr.sureAddr,hv,hrun]
theorem zacz {o:Oper} {T E:TypeId} {x y:Operand} {e:Operand→Value} {j sz off n len:Nat} {i0:Int} {k:IntKind} {i:Int} (ho:o.op=.indexAddr T x y)
  (hx:Rd (cx G blks nu w) (.rptr j sz off i0) (e x)) (hy:Rd (cx G blks nu w) (.val (.int k i)) (e y)) (hT:P.underlying T=some (.array len E)) (hn:zr P (sizeOf E)=some n)
  (hi:0≤i∧i < len):Does P o e w (zln G blks nu w ⟨[0≤i∧i < len],.rpix j sz off i0 [(len,n,i)],[]⟩):=by
 generalize hv:e x=v at hx
 generalize hw:e y=b at hy
 cases hy
 cases hx with
 | @rptr _ _ _ g m cap _ hnj hi0 =>
  refine Does.value (v:=.pointer (some ((⟨g,i0.toNat*sz+off,none⟩:Addr).add (i.toNat*n)))) (w':=w) ?_ ⟨nu,.refl _,h,?_⟩
  ·simp[execOp,ho,hv,hw,Instr.indexAt,asIntOf,run_underlying hT,hi,Instr.sureAddr,zq hn w]
  ·rw[zaq]
   have:=Rd.rpix (C:=cx G blks nu w) (sz:=sz) (off:=off) (ix:=[(len,n,i)]) hnj hi0 ⟨hi,trivial⟩
   simp only[ixN,Nat.add_zero] at this
   exact this
theorem zac0 {o:Oper} {T E:TypeId} {x y:Operand} {e:Operand→Value} {j sz off n len:Nat} {i0:Int} {k:IntKind} {i:Int} (ho:o.op=.indexAddr T x y)
  (hx:Rd (cx G blks nu w) (.rptr j sz off i0) (e x)) (hy:Rd (cx G blks nu w) (.val (.int k i)) (e y)) (hT:P.underlying T=some (.array len E)) (hn:zr P (sizeOf E)=some n)
  (hi:0≤i∧i < len):Does P o e w (zln G blks nu w ⟨[],.rptr j sz (off+i.toNat*n) i0,[]⟩):=by
 generalize hv:e x=v at hx
 generalize hw:e y=b at hy
 cases hy
 cases hx with
 | @rptr _ _ _ g m cap _ hnj hi0 =>
  refine Does.value (v:=.pointer (some ((⟨g,i0.toNat*sz+off,none⟩:Addr).add (i.toNat*n)))) (w':=w) ?_ (za8 h (by rw[zaq,Nat.add_assoc];exact .rptr hnj hi0))
  simp[execOp,ho,hv,hw,Instr.indexAt,asIntOf,run_underlying hT,hi,Instr.sureAddr,zq hn w]
theorem zac1 {o:Oper} {T:TypeId} {x:Operand} {e:Operand→Value} {j:Nat} {E:TypeId} (ho:o.op=.makeInterface T x) (hT:P.underlying T=some (.slice E))
  (hx:Rd (cx G blks nu w) (.own j) (e x)):Does P o e w (zln G blks nu w ⟨[],.iface T j,[]⟩):=by
 cases hv:e x
 all_goals
  rw[hv] at hx
  cases hx with
  | own hn =>
   refine Does.value (v:=.iface T (e x)) (w':=w) ?_ (za8 h (.iface (by rw[hv];exact hn)))
   simp[execOp,ho,Instr.makeInterface,run_underlying hT,hv]
theorem zaf5 {o:Oper} {T E F:TypeId} {x:Operand} {hi:Option Operand} {e:Operand→Value} {g:Operand→AV} {j id:Nat} {s:Sl} {r:Int} (ho:o.op=.slice T x none hi none) (hT:P.underlying T=some (.slice E))
  (hn:zr P (sizeOf E)=some s.sz) (hg:∀ x,Rd (cx G blks nu w) (g x) (e x)) (hx:g x=.own j) (hb:blks.getD j .dead=.rows F s) (hf:blks.getD id .dead=.free) (hne:j≠id)
  (hr:z6r s.len (hi.map g)=some r) (hbd:0≤r∧r≤(s.len:Int)) :
  Does P o e w (zln G blks nu w ⟨[0≤r∧r≤(s.len:Int)],.own id,[(j,.dead),(id,.rows F (s.cut 0 r.toNat))]⟩):=by
 have conv:∀ q:Option Operand,(q.map g=none∧q.map e=none)∨∃ a u,q.map g=some a∧q.map e=some u∧Rd (cx G blks nu w) a u:=by
  intro q
  cases q with
  | none=>exact .inl ⟨rfl,rfl⟩
  | some z=>exact .inr ⟨_,_,rfl,rfl,hg z⟩
 have h2:=z93 hr (conv hi)
 obtain ⟨c1,c2,c3⟩:=zal2 s 0 r.toNat (by omega) (by omega)
 have helem:P.elem T=E:=by simp[Program.elem,hT]
 have hv:=hg x
 rw[hx] at hv
 have hat:(Instr.sliceAt T (e x) none (hi.map e) none).run P w=(Instr.slice T (e x) none (hi.map e) none).run P w:=run_sliceAt_slice w T _ _ _ _ (by rw[hT,helem])
 have hk:=h.ok j
 rw[hb] at hk
 obtain ⟨v,vs,e1,e2,e3,e4⟩:=hk
 have hvv:e x=v:=by
  generalize e x=u at hv
  cases hv with
  | own hn2=>have:=hn2.symm.trans e1;simpa using this
 rw[hvv] at hat
 have hlv:(blks.getD j .dead).live=true:=by rw[hb];rfl
 have hjl:j < blks.length:=by
  rcases Nat.lt_or_ge j blks.length with h1 | h1
  ·exact h1
  ·rw[yy0,List.getElem?_eq_none h1] at hb;cases hb
 have hread:∀ C',(cx G blks nu w).Le C'→∀ k c,k < (s.cut 0 r.toNat).len→c < (s.cut 0 r.toNat).sz→Rd C' ((s.cut 0 r.toNat).cell k c) ((vs.take (r.toNat*s.sz)).getD (k*(s.cut 0 r.toNat).sz+c) undef):=by
  intro C' hle k c hk hc
  rw[c1,Nat.sub_zero] at hk
  rw[c2] at hc ⊢
  rw[c3 k c (by omega),Nat.zero_add]
  have hlt:k*s.sz+c < r.toNat*s.sz:=by
   calc k*s.sz+c < k*s.sz+s.sz:=by omega
    _=(k+1)*s.sz:=by rw[Nat.add_mul,Nat.one_mul]
    _≤r.toNat*s.sz:=Nat.mul_le_mul_right _ hk
  rw[yy0,List.getElem?_take_of_lt hlt,← yy0]
  exact (e3 k c (by omega) hc).mono hle
 have finish:∀ v':Value,zfq v'=zfq v→w.ownsRow 0 F (s.cut 0 r.toNat).sz v' (s.cut 0 r.toNat).len (vs.take (r.toNat*s.sz))→(execOp e o).run P w=.ok (.value v') w →
   Does P o e w (zln G blks nu w ⟨[0≤r∧r≤(s.len:Int)],.own id,[(j,.dead),(id,.rows F (s.cut 0 r.toNat))]⟩):=by
  intro v' hb' hown' hrun
  obtain ⟨nu',k1,k2,k3⟩:=h.putRow (blks1:=blks.set j .dead) (w':=w) (old:=some j) (row:=zfq v) hf (by simp)
   (fun i hi1 hi2=>getD_set_ne (fun q=>hi2 (by rw[q]))) (fun i hi1=>by cases hi1;exact ⟨hne,z9 hjl,hlv⟩) hown' (by rw[c1];omega) hread
   ⟨rfl,rfl,rfl,Nat.le_refl _,fun _ _ _=>rfl⟩ (fun b hb1=>⟨j,v,rfl,e1,hb1⟩) (.inl hb')
  exact Does.value (v:=v') (w':=w) hrun ⟨nu',by simpa[upd] using k1,by simpa[upd] using k2,by simpa[upd] using Rd.own (C:=cx G ((blks.set j .dead).set id (.rows F (s.cut 0 r.toNat))) nu' w) k3⟩
 obtain ⟨q1,q2⟩:=e2
 rcases q2 with ⟨rfl,h0⟩ | ⟨gg,cap,cur,rfl,q3,q4,q5,q6,q7,q8⟩
 ·have hrun:=zr4 (P:=P) (isSlice:=true) (len:=0) (cap:=0) (lo:=none) (hi:=hi.map e) (l:=0) (r:=r) (.inl ⟨rfl,rfl⟩) (by rw[h0] at h2;exact h2) (Int.le_refl _) hbd.1 (by omega) (Nat.le_refl _) w
  have e0:r.toNat=0:=by omega
  have el:(s.cut 0 r.toNat).len=0:=by rw[c1];omega
  refine finish (.slice none 0 0) rfl ⟨by rw[el,e0,Nat.zero_mul,Nat.zero_mul];rfl,.inl ⟨rfl,el⟩⟩ ?_
  simp only[e0] at hrun
  simp[execOp,ho,hvv,hat,Instr.slice,run_underlying hT,hrun,zq hn w]
 ·have hrun:=zr4 (P:=P) (isSlice:=true) (len:=s.len) (cap:=cap) (lo:=none) (hi:=hi.map e) (l:=0) (r:=r) (.inl ⟨rfl,rfl⟩) h2 (Int.le_refl _) hbd.1 hbd.2 q5 w
  have ha:(if cap=0 then (⟨gg,0,none⟩:Addr) else (⟨gg,0,none⟩:Addr).add (0*s.sz))=⟨gg,0,none⟩:=by
   split
   ·rfl
   ·rw[Nat.zero_mul,zaq]
  refine finish (.slice (some ⟨gg,0,none⟩) r.toNat cap) rfl ⟨?_,.inr ⟨gg,cap,cur,by rw[c1,Nat.sub_zero],q3,q4,by rw[c1];omega,q6,by rw[c2];exact q7,?_⟩⟩ ?_
  ·have:r.toNat*s.sz≤s.len*s.sz:=Nat.mul_le_mul_right _ (by omega)
   rw[List.length_take,c1,c2,Nat.sub_zero]
   omega
  ·rw[c1,c2,Nat.sub_zero,← q8,List.take_take,Nat.min_eq_left (Nat.mul_le_mul_right _ (by omega))]
  ·simp only[execOp,ho,hvv,hat,Option.map_none,Instr.slice,Sem.run_bind,run_underlying hT,Result.andThen_ok,hrun,zq hn w,Sem.run_pure,Int.toNat_zero,Nat.sub_zero]
   congr 2
   split<;>simp_all
end sound
