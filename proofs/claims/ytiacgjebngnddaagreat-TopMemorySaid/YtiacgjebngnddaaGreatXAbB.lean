/-
  The walk over abstract states.
-/
import Derived.Test.YtiacgjebngnddaaGreatXAbA
import Derived.Deep.LoopGhost
import Derived.Laws.BytesArg
import Derived.Laws.Cover3
import Derived.Laws.IdiomStrings
import Derived.Laws.Pointers
import Derived.Laws.Slices
import Derived.MapKept
import Derived.Orders
namespace Go.Proofs.YtiacgjebngnddaaGreat.Ab
open Go Go.RowKit
set_option linter.unusedSimpArgs false
set_option linter.unusedVariables false
def Sl.ite (c:Prop) [Decidable c]:Sl→Sl→Option Sl
 | .ints l,.ints m=>some (.ints (if c then l else m))
 | .strs l,.strs m=>some (.strs (if c then l else m))
 | .bytes l,.bytes m=>some (.bytes (if c then l else m))
 | .powers l,.powers m=>some (.powers (if c then l else m))
 | .packets l,.packets m=>some (.packets (if c then l else m))
 | .waits l,.waits m=>some (.waits (if c then l else m))
 | .asked l,.asked m=>some (.asked (if c then l else m))
 | .ripes l,.ripes m=>some (.ripes (if c then l else m))
 | .deeds l,.deeds m=>some (.deeds (if c then l else m))
 | .replies l,.replies m=>some (.replies (if c then l else m))
 | .orders l,.orders m=>some (.orders (if c then l else m))
 | .carries l,.carries m=>some (.carries (if c then l else m))
 | .intss l,.intss m=>some (.intss (if c then l else m))
 | _,_=>none
theorem Sl.ite_spec {c:Prop} [Decidable c] {s t r:Sl} (h:s.ite c t=some r):(c→r=s)∧(¬ c→r=t):=by
 cases s<;>cases t<;>simp only[Sl.ite,yy1,reduceCtorEq] at h<;>subst h<;>exact ⟨fun hc=>by rw[if_pos hc],fun hc=>by rw[if_neg hc]⟩
theorem zag7 (s:Sl):s.empty.len=0:=by cases s<;>rfl
def ifAV (c:Prop) [Decidable c]:AV→AV→Option AV
 | .val (.int k a),.val (.int k' b)=>if k=k' then some (.val (.int k (if c then a else b))) else none
 | .val (.bool a),.val (.bool b)=>some (.val (.bool (if c then a else b)))
 | .val (.string a),.val (.string b)=>some (.val (.string (if c then a else b)))
 | .sl s,.sl t=>match s.ite c t with
  | some r=>some (.sl r)
  | none=>none
 | .sl s,.val (.slice none 0 0)=>match s.ite c s.empty with
  | some r=>some (.sl r)
  | none=>none
 | .val (.slice none 0 0),.sl t=>match t.empty.ite c t with
  | some r=>some (.sl r)
  | none=>none
 | .val (.slice none 0 0),.val (.slice none 0 0)=>some (.val (.slice none 0 0))
 | _,_=>none
theorem zanm {C:Cx} {v:Value} {s:Sl} (h:Rd C (.val (.slice none 0 0)) v):Rd C (.sl s.empty) v:=by
 cases h;exact .slnil (zag7 s)
theorem z6g {C:Cx} {c:Prop} [Decidable c] {x y z:AV} (h:ifAV c x y=some z) {v:Value}:(c→Rd C x v→Rd C z v)∧(¬ c→Rd C y v→Rd C z v):=by
 unfold ifAV at h
 split at h
 ·split at h
  ·rename_i e
   simp only[yy1] at h
   subst h;subst e
   exact ⟨fun hc=>by rw[if_pos hc];exact id,fun hc=>by rw[if_neg hc];exact id⟩
  ·cases h
 ·simp only[yy1] at h
  subst h
  exact ⟨fun hc=>by rw[if_pos hc];exact id,fun hc=>by rw[if_neg hc];exact id⟩
 ·simp only[yy1] at h
  subst h
  exact ⟨fun hc=>by rw[if_pos hc];exact id,fun hc=>by rw[if_neg hc];exact id⟩
 ·split at h
  ·rename_i r hr
   simp only[yy1] at h
   subst h
   obtain ⟨h1,h2⟩:=Sl.ite_spec hr
   exact ⟨fun hc=>by rw[h1 hc];exact id,fun hc=>by rw[h2 hc];exact id⟩
  ·cases h
 ·split at h
  ·rename_i r hr
   simp only[yy1] at h
   subst h
   obtain ⟨h1,h2⟩:=Sl.ite_spec hr
   exact ⟨fun hc=>by rw[h1 hc];exact id,fun hc=>by rw[h2 hc];exact zanm⟩
  ·cases h
 ·split at h
  ·rename_i r hr
   simp only[yy1] at h
   subst h
   obtain ⟨h1,h2⟩:=Sl.ite_spec hr
   exact ⟨fun hc=>by rw[h1 hc];exact zanm,fun hc=>by rw[h2 hc];exact id⟩
  ·cases h
 ·simp only[yy1] at h
  subst h
  exact ⟨fun _=>id,fun _=>id⟩
 ·cases h
def zag8 (i:Int):Nat→List AV→Option AV
 | _,[]=>none
 | k,x::l=>match l with
  | []=>some x
  | _::_=>match zag8 i (k+1) l with
   | some r=>ifAV (i=(k:Int)) x r
   | none=>none
theorem zac5 {C:Cx} {i:Int} {v:Value}:∀ {l:List AV} {k:Nat} {z:AV},zag8 i k l=some z→∀ q:Nat,(k:Int)+(q:Int)=i→q < l.length→Rd C (l.getD q .any) v→Rd C z v
 | [],k,z,h,q,hq,hl,_=>by cases h
 | [x],k,z,h,q,hq,hl,hr=>by
  simp only[zag8,yy1] at h
  subst h
  have:q=0:=by simp at hl;omega
  subst this;exact hr
 | x::y::l,k,z,h,q,hq,hl,hr=>by
  rw[zag8] at h
  split at h
  ·rename_i r hrr
   cases q with
   | zero=>exact (z6g h).1 (by omega) hr
   | succ q =>
    refine (z6g h).2 (by omega) (zac5 hrr q (by omega) (by simpa using hl) ?_)
    simpa using hr
  ·cases h
def zzh {α:Type}:List (Option α)→Option (List α)
 | []=>some []
 | x::l=>match x,zzh l with
  | some a,some as=>some (a::as)
  | _,_=>none
theorem zwl {α:Type}:∀ {l:List (Option α)} {as:List α},zzh l=some as→as.length=l.length∧∀ q,q < l.length→∀ d,l.getD q none=some (as.getD q d)
 | [],as,h=>by
  simp only[zzh,yy1] at h
  subst h;exact ⟨rfl,fun q hq=>absurd hq (Nat.not_lt_zero q)⟩
 | x::l,as,h=>by
  simp only[zzh] at h
  split at h
  ·rename_i a as' h2
   simp only[yy1] at h
   subst h
   obtain ⟨k1,k2⟩:=zwl h2
   refine ⟨by simp[k1],fun q hq d=>?_⟩
   cases q with
   | zero=>rfl
   | succ q=>simpa using k2 q (by simpa using hq) d
  ·cases h
def z4x (cs:List AV):List (Nat×Nat×Int)→Nat→Option AV
 | [],o=>cs[o]?
 | (len,stride,i)::l,o=>match zzh ((List.range len).map fun k=>z4x cs l (o+k*stride)) with
  | some xs=>zag8 i 0 xs
  | none=>none
theorem pickAV_rd {C:Cx} {cs:List AV} {vs:List Value} (hr:Rds C cs vs):∀ {ix:List (Nat×Nat×Int)} {o:Nat} {z:AV},z4x cs ix o=some z→inB ix→∃ v,vs[o+ixN ix]?=some v∧Rd C z v
 | [],o,z,h,_=>by
  obtain ⟨v,h1,h2⟩:=hr.get o z h
  exact ⟨v,h1,h2⟩
 | (len,stride,i)::l,o,z,h,hb=>by
  obtain ⟨⟨h0,h1⟩,h2⟩:=hb
  simp only at h0 h1
  simp only[z4x] at h
  split at h
  ·rename_i xs hxs
   obtain ⟨k1,k2⟩:=zwl hxs
   rw[List.length_map,List.length_range] at k1 k2
   have hq:i.toNat < len:=by omega
   have h3:=k2 i.toNat hq .any
   rw[getD_map' (fun k=>z4x cs l (o+k*stride)) _ _ 0 none (by simpa using hq),yy0,List.getElem?_range hq] at h3
   obtain ⟨v,h4,h5⟩:=pickAV_rd hr h3 h2
   refine ⟨v,?_,zac5 h i.toNat (by omega) (by omega) h5⟩
   rw[← h4]
   congr 1
   simp only[ixN,yy2]
   omega
  ·cases h
where
 getD_map' {α β:Type} (f:α→β) (l:List α) (i:Nat) (d:α) (e:β) (h:i < l.length):(l.map f).getD i e=f (l.getD i d):=by
  simp[yy0,yy3 h]
def updR (f:Nat→List AV→Option (List AV)):List Nat→List AV→Option (List AV)
 | [],cs=>some cs
 | k::ks,cs=>match f k cs with
  | some cs'=>updR f ks cs'
  | none=>none
def updC (f:AV→Option AV):List (Nat×Nat×Int)→Nat→List AV→Option (List AV)
 | [],o,cs=>match cs[o]? with
  | some old=>match f old with
   | some x=>some (cs.set o x)
   | none=>none
  | none=>none
 | (len,stride,i)::l,o,cs=>updR (fun k cs=>updC (fun old=>match f old with
   | some x=>ifAV (i=(k:Int)) x old
   | none=>none) l (o+k*stride) cs) (List.range len) cs
theorem zag9 {C:Cx} {val:Value}:∀ {ix:List (Nat×Nat×Int)} {f:AV→Option AV} {o:Nat} {cs cs':List AV} {vs:List Value} {p:Prop},
  (∀ old u x,f old=some x→Rd C old u→(p→Rd C x val)∧(¬ p→Rd C x u))→updC f ix o cs=some cs'→inB ix→Rds C cs vs →
  (p→Rds C cs' (vs.set (o+ixN ix) val))∧(¬ p→Rds C cs' vs)
 | [],f,o,cs,cs',vs,p,hf,h,_,hr=>by
  simp only[updC] at h
  split at h
  ·rename_i old ho
   split at h
   ·rename_i x hx
    simp only[yy1] at h
    subst h
    obtain ⟨u,hu,hru⟩:=hr.get o old ho
    obtain ⟨h1,h2⟩:=hf old u x hx hru
    refine ⟨fun hp=>hr.set o (h1 hp),fun hp=>?_⟩
    have:=hr.set o (h2 hp)
    have hlt:o < vs.length:=(List.getElem?_eq_some_iff.1 hu).1
    have e:vs.set o u=vs:=by
     rw[yy3 hlt] at hu
     simp only[yy1] at hu
     rw[← hu,List.set_getElem_self]
    rwa [e] at this
   ·cases h
  ·cases h
 | (len,stride,i)::l,f,o,cs,cs',vs,p,hf,h,hb,hr=>by
  obtain ⟨⟨h0,h1⟩,h2⟩:=hb
  simp only at h0 h1
  simp only[updC] at h
  have main:∀ (n k:Nat) (cs cs':List AV) (vs:List Value),k+n=len→updR (fun k cs=>updC (fun old=>match f old with
   | some x=>ifAV (i=(k:Int)) x old
   | none=>none) l (o+k*stride) cs) (List.range' k n) cs=some cs'→Rds C cs vs →
   (p∧k≤i.toNat→Rds C cs' (vs.set (o+i.toNat*stride+ixN l) val))∧(¬ (p∧k≤i.toNat)→Rds C cs' vs):=by
   intro n
   induction n with
   | zero =>
    intro k cs cs' vs hk hu hr
    simp only[List.range'_zero,updR,yy1] at hu
    subst hu
    exact ⟨fun ⟨_,hc⟩=>by omega,fun _=>hr⟩
   | succ n ih =>
    intro k cs cs' vs hk hu hr
    rw[List.range'_succ] at hu
    simp only[updR] at hu
    split at hu
    ·rename_i cs1 hcs1
     have hstep:=zag9 (ix:=l) (p:=p∧i=(k:Int)) (C:=C) (val:=val) (fun old u x hx hru=>by
      split at hx
      ·rename_i x' hx'
       obtain ⟨q1,q2⟩:=hf old u x' hx' hru
       obtain ⟨r1,r2⟩:=z6g (C:=C) hx (v:=val)
       obtain ⟨r3,r4⟩:=z6g (C:=C) hx (v:=u)
       refine ⟨fun ⟨hp,hi⟩=>r1 hi (q1 hp),fun hn=>?_⟩
       by_cases hi:i=(k:Int)
       ·exact r3 hi (q2 (fun hp=>hn ⟨hp,hi⟩))
       ·exact r4 hi hru
      ·cases hx) hcs1 h2 hr
     by_cases hi:i=(k:Int)
     ·have hik:i.toNat=k:=by omega
      by_cases hp:p
      ·have h5:=ih (k+1) cs1 cs' _ (by omega) hu (hstep.1 ⟨hp,hi⟩)
       have h6:=h5.2 (fun ⟨_,hc⟩=>by omega)
       refine ⟨fun _=>by rw[hik];exact h6,fun hn=>absurd ⟨hp,by omega⟩ hn⟩
      ·have h5:=ih (k+1) cs1 cs' _ (by omega) hu (hstep.2 (fun hc=>hp hc.1))
       exact ⟨fun hc=>absurd hc.1 hp,fun _=>h5.2 (fun hc=>hp hc.1)⟩
     ·have h5:=ih (k+1) cs1 cs' _ (by omega) hu (hstep.2 (fun hc=>hi hc.2))
      refine ⟨fun ⟨hp,hc⟩=>h5.1 ⟨hp,by omega⟩,fun hn=>h5.2 (fun ⟨hp,hc⟩=>hn ⟨hp,by omega⟩)⟩
    ·cases hu
  rw[List.range_eq_range'] at h
  obtain ⟨h3,h4⟩:=main len 0 cs cs' vs (by omega) h hr
  refine ⟨fun hp=>?_,fun hp=>h4 (fun hc=>hp hc.1)⟩
  have:=h3 ⟨hp,Nat.zero_le _⟩
  rwa [show o+ixN ((len,stride,i)::l)=o+i.toNat*stride+ixN l by simp only[ixN];omega]
def z6h (ix:List (Nat×Nat×Int)):Nat→List AV→List AV→Option (List AV)
 | _,[],cs=>some cs
 | o,y::ys,cs=>match updC (fun _=>some y) ix o cs with
  | some cs'=>z6h ix (o+1) ys cs'
  | none=>none
theorem z6i {C:Cx} {ix:List (Nat×Nat×Int)} (hb:inB ix):∀ {ys:List AV} {us:List Value} {o:Nat} {cs cs':List AV} {vs:List Value},z6h ix o ys cs=some cs'→Rds C ys us→Rds C cs vs →
  o+ixN ix+ys.length≤vs.length→Rds C cs' (vs.take (o+ixN ix)++us++vs.drop (o+ixN ix+ys.length))
 | [],us,o,cs,cs',vs,h,hy,hr,_=>by
  simp only[z6h,yy1] at h
  subst h
  rw[hy.unnil]
  simpa using hr
 | y::ys,us,o,cs,cs',vs,h,hy,hr,hl=>by
  obtain ⟨u,us',rfl,hu,hus⟩:=hy.uncons
  simp only[z6h] at h
  split at h
  ·rename_i cs1 h1
   have h2:=(zag9 (p:=True) (val:=u) (fun old _ x hx _=>by
    simp only[yy1] at hx
    subst hx
    exact ⟨fun _=>hu,fun hn=>absurd trivial hn⟩) h1 hb hr).1 trivial
   simp only[List.length_cons] at hl
   have h3:=z6i hb h hus h2 (by rw[List.length_set];omega)
   have hlt:o+ixN ix < vs.length:=by omega
   have e1:(vs.set (o+ixN ix) u).take (o+1+ixN ix)=vs.take (o+ixN ix)++[u]:=by
    rw[show o+1+ixN ix=o+ixN ix+1 by omega,List.take_succ_eq_append_getElem (by rw[List.length_set];exact hlt),List.getElem_set_self,List.take_set_of_le (Nat.le_refl _)]
   have e2:(vs.set (o+ixN ix) u).drop (o+1+ixN ix+ys.length)=vs.drop (o+ixN ix+(ys.length+1)):=by
    rw[List.drop_set_of_lt (by omega)];congr 1;omega
   rw[e1,e2] at h3
   simpa using h3
  ·cases h
def z1x (cs:List AV) (ix:List (Nat×Nat×Int)) (o n:Nat):Option (List AV):=zzh ((List.range n).map fun c=>z4x cs ix (o+c))
theorem ztj {C:Cx} {cs:List AV} {vs:List Value} (hr:Rds C cs vs) {ix:List (Nat×Nat×Int)} (hb:inB ix) {o n:Nat} {xs:List AV} (h:z1x cs ix o n=some xs) :
  xs.length=n∧Rds C xs ((vs.drop (o+ixN ix)).take n)∧∀ c,c < n→o+ixN ix+c < vs.length:=by
 obtain ⟨k1,k2⟩:=zwl h
 rw[List.length_map,List.length_range] at k1 k2
 have key:∀ c,c < n→∃ v,vs[o+ixN ix+c]?=some v∧Rd C (xs.getD c .any) v:=by
  intro c hc
  have h3:=k2 c hc .any
  rw[pickAV_rd.getD_map' (fun c=>z4x cs ix (o+c)) _ _ 0 none (by simpa using hc),yy0,List.getElem?_range hc] at h3
  obtain ⟨v,h4,h5⟩:=pickAV_rd hr h3 hb
  refine ⟨v,?_,h5⟩
  rw[← h4]
  congr 1
  simp only[yy2]
  omega
 have hlen:∀ c,c < n→o+ixN ix+c < vs.length:=fun c hc=>by
  obtain ⟨v,h1,_⟩:=key c hc
  exact (List.getElem?_eq_some_iff.1 h1).1
 refine ⟨k1,⟨?_,fun c hc=>?_⟩,hlen⟩
 ·rw[List.length_take,List.length_drop,k1]
  rcases Nat.eq_zero_or_pos n with h0 | h0
  ·omega
  ·have:=hlen (n - 1) (by omega);omega
 ·rw[k1] at hc
  obtain ⟨v,h1,h2⟩:=key c hc
  rw[yy0 (l:=(vs.drop (o+ixN ix)).take n),List.getElem?_take_of_lt hc,List.getElem?_drop,h1]
  exact h2
section sound
variable {P:Program} {G:Gl} {blks:List Blk} {nu:Nat→Option Value} {w:World} (h:MInv G blks nu w)
include h
theorem z6j {o:Oper} {T E:TypeId} {x y:Operand} {e:Operand→Value} {j off n len:Nat} {k:IntKind} {i:Int} (ho:o.op=.indexAddr T x y)
  (hx:Rd (cx G blks nu w) (.ptr j off) (e x)) (hy:Rd (cx G blks nu w) (.val (.int k i)) (e y)) (hT:P.underlying T=some (.array len E)) (hn:zi P (sizeOf E)=some n)
  (hi:0≤i∧i < len):Does P o e w (zf1 G blks nu w ⟨[0≤i∧i < len],.pix j off [(len,n,i)] 0,[]⟩):=by
 generalize hv:e x=v at hx
 generalize hw:e y=b at hy
 cases hy
 cases hx with
 | @ptr _ _ b hb =>
  refine Does.value (v:=.pointer (some ((⟨b,off,none⟩:Addr).add (i.toNat*n)))) (w':=w) ?_ ⟨nu,.refl _,h,?_⟩
  ·simp[execOp,ho,hv,hw,Instr.indexAt,asIntOf,run_underlying hT,hi,Instr.sureAddr,zj hn w]
  ·rw[z7]
   have:=Rd.pix (C:=cx G blks nu w) (base:=off) (off:=0) (ix:=[(len,n,i)]) hb ⟨hi,trivial⟩
   simp only[ixN,Nat.add_zero] at this
   exact this
theorem z33 {o:Oper} {T E:TypeId} {x y:Operand} {e:Operand→Value} {j base off n len:Nat} {ix:List (Nat×Nat×Int)} {k:IntKind} {i:Int} (ho:o.op=.indexAddr T x y)
  (hx:Rd (cx G blks nu w) (.pix j base ix off) (e x)) (hy:Rd (cx G blks nu w) (.val (.int k i)) (e y)) (hT:P.underlying T=some (.array len E)) (hn:zi P (sizeOf E)=some n)
  (hi:0≤i∧i < len):Does P o e w (zf1 G blks nu w ⟨[0≤i∧i < len],.pix j (base+off) (ix++[(len,n,i)]) 0,[]⟩):=by
 generalize hv:e x=v at hx
 generalize hw:e y=b at hy
 cases hy
 cases hx with
 | @pix _ _ _ b _ hb hbx =>
  have h1:∀ l:List (Nat×Nat×Int),inB l→inB (l++[(len,n,i)])∧ixN (l++[(len,n,i)])=ixN l+i.toNat*n:=by
   intro l
   induction l with
   | nil=>intro _;exact ⟨⟨hi,trivial⟩,by simp[ixN]⟩
   | cons p l ih =>
    intro hl
    obtain ⟨q1,q2⟩:=ih hl.2
    exact ⟨⟨hl.1,q1⟩,by simp only[List.cons_append,ixN,q2];omega⟩
  obtain ⟨h2,h3⟩:=h1 ix hbx
  refine Does.value (v:=.pointer (some ((⟨b,base+ixN ix+off,none⟩:Addr).add (i.toNat*n)))) (w':=w) ?_ ⟨nu,.refl _,h,?_⟩
  ·simp[execOp,ho,hv,hw,Instr.indexAt,asIntOf,run_underlying hT,hi,Instr.sureAddr,zj hn w]
  ·rw[z7]
   have:=Rd.pix (C:=cx G blks nu w) (base:=base+off) (off:=0) hb h2
   rw[h3] at this
   rwa [show base+ixN ix+off+i.toNat*n=base+off+(ixN ix+i.toNat*n)+0 by omega]
theorem z6k {o:Oper} {T:TypeId} {x:Operand} {e:Operand→Value} {j base off:Nat} {ix:List (Nat×Nat×Int)} {U:TypeId} {cs xs:List AV} {t:Bool} {n:Nat} (ho:o.op=.load T x)
  (hx:Rd (cx G blks nu w) (.pix j base ix off) (e x)) (hb:blks.getD j .dead=.cells U cs) (ht:zi P (isAgg T)=some t) (hn:zi P (sizeOf T)=some n)
  (h1:t=false→n=1) (hp:z1x cs ix (base+off) n=some xs):Does P o e w (zf1 G blks nu w ⟨[],zm8 t xs,[]⟩):=by
 have hk:=h.ok j
 rw[hb] at hk
 obtain ⟨b,vs,e1,e2,e3⟩:=hk
 generalize hv:e x=v at hx
 cases hx with
 | @pix _ _ _ b' _ e4 hbx =>
  have:b=b':=by have:=e1.symm.trans e4;simpa using this
  subst this
  obtain ⟨k1,k2,k3⟩:=ztj e3 hbx hp
  have hadd:base+ixN ix+off=base+off+ixN ix:=by omega
  have hrun:=zb8 (w:=w) ht hn ⟨b,base+ixN ix+off,none⟩ ((vs.drop (base+off+ixN ix)).take n) (by rw[k2.1,k1]) h1 (fun i v hi=>by
   rw[z7,hadd,cell_of_row w b (base+off+ixN ix+i) vs.toArray U (0,0) e2]
   have hin:i < n:=by have:=(List.getElem?_eq_some_iff.1 hi).1;simp at this;omega
   rw[List.getElem?_take_of_lt hin,List.getElem?_drop] at hi
   simpa using hi)
  refine Does.value (v:=if t then .agg ((vs.drop (base+off+ixN ix)).take n).toArray else ((vs.drop (base+off+ixN ix)).take n).getD 0 undef) (w':=w) ?_ (zam h (zic k2 (fun ht=>by rw[k1];exact h1 ht)))
  simp[execOp,ho,Instr.loadAt,Instr.sureAddr,hv,hrun]
theorem z34 {o:Oper} {T:TypeId} {x y:Operand} {e:Operand→Value} {j base off:Nat} {ix:List (Nat×Nat×Int)} {U:TypeId} {cs cs':List AV} {c:AV} {n:Nat} (ho:o.op=.store T x y)
  (hx:Rd (cx G blks nu w) (.pix j base ix off) (e x)) (hy:Rd (cx G blks nu w) c (e y)) (hb:blks.getD j .dead=.cells U cs) (hn:zi P (sizeOf T)=some n)
  (hc:(zag c).all (one fun j=>blks.getD j .dead)=true) (hl:(zag c).length=n) (hfit:(z1x cs ix (base+off) n).isSome=true) (hp:z6h ix (base+off) (zag c) cs=some cs') :
  Does P o e w (zf1 G blks nu w ⟨[],.any,[(j,.cells U cs')]⟩):=by
 obtain ⟨k1,k2⟩:=zwc h hy hc
 have hk:=h.ok j
 rw[hb] at hk
 obtain ⟨b,vs,e1,e2,e3⟩:=hk
 generalize hv:e x=v at hx
 cases hx with
 | @pix _ _ _ b' _ e4 hbx =>
  have:b=b':=by have:=e1.symm.trans e4;simpa using this
  subst this
  obtain ⟨xs,hxs⟩:=Option.isSome_iff_exists.1 hfit
  obtain ⟨_,_,p3⟩:=ztj e3 hbx hxs
  have hadd:base+ixN ix+off=base+off+ixN ix:=by omega
  have hlen:(e y).cells.toList.length=n:=by rw[k1.1];exact hl
  have hfits:base+off+ixN ix+n≤vs.length∨n=0:=by
   rcases Nat.eq_zero_or_pos n with h0 | h0
   ·exact .inr h0
   ·have:=p3 (n - 1) (by omega);exact .inl (by omega)
  rcases hfits with hf | h0
  ·have hst:=run_storeCells_at P b (base+off+ixN ix) U (e y).cells.toList 0 vs.toArray w e2 (by simp only[Nat.add_zero,List.size_toArray];rw[hlen];exact hf) k2
   have hr:=z6i hbx hp k1 e3 (by rw[hl];exact hf)
   rw[hl] at hr
   simp only[Nat.add_zero,hlen] at hst
   obtain ⟨m1,m2⟩:=h.write (w':=w.setRow b (vs.take (base+off+ixN ix)++(e y).cells.toList++vs.drop (base+off+ixN ix+n)).toArray) hb e1 hr (fun k hk=>setRow_other w b k _ hk) (setRow_heap w b _ _ U _ e2) (by simp[World.setRow]) rfl rfl rfl
   refine Does.skip (w':=w.setRow b (vs.take (base+off+ixN ix)++(e y).cells.toList++vs.drop (base+off+ixN ix+n)).toArray) ?_ ⟨nu,by simpa[upd] using m1,by simpa[upd] using m2,.any⟩
   have hsz:((e y).cells.size≠n)=False:=by simp[← hlen]
   simp only[execOp,ho,Instr.storeAt,Instr.sureAddr,hv,Sem.run_bind,Sem.run_pure',Sem.run_pure,Result.andThen_ok,storeVar,zj hn w,hsz,if_false,hadd,hst,Sem.run_ite]
  ·subst h0
   have hce:zag c=[]:=List.eq_nil_of_length_eq_zero hl
   have hue:(e y).cells=#[]:=by
    have:=hlen
    cases hcc:(e y).cells with | mk l=>rw[hcc] at this;simp at this;subst this;rfl
   rw[hce] at hp
   simp only[z6h,yy1] at hp
   subst hp
   obtain ⟨m1,m2⟩:=h.write (w':=w) hb e1 e3 (fun _ _=>rfl) e2 rfl rfl rfl rfl
   refine Does.skip (w':=w) ?_ ⟨nu,by simpa[upd] using m1,by simpa[upd] using m2,.any⟩
   simp[execOp,ho,Instr.storeAt,Instr.sureAddr,hv,storeVar,zj hn w,hue,storeCells]
theorem z6l {o:Oper} {T E:TypeId} {x y:Operand} {e:Operand→Value} {cs xs:List AV} {len:Nat} {k:IntKind} {i:Int} {t:Bool} {n:Nat} (ho:o.op=.index T x y)
  (hx:Rd (cx G blks nu w) (.agg cs) (e x)) (hy:Rd (cx G blks nu w) (.val (.int k i)) (e y)) (hT:P.underlying T=some (.array len E)) (ht:zi P (isAgg E)=some t) (hn:zi P (sizeOf E)=some n)
  (hi:0≤i∧i < len) (h1:t=false→n=1) (hp:z1x cs [(len,n,i)] 0 n=some xs):Does P o e w (zf1 G blks nu w ⟨[0≤i∧i < len],zm8 t xs,[]⟩):=by
 generalize hv:e x=v at hx
 generalize hw:e y=b at hy
 cases hy
 cases hx with
 | @agg _ vs hvl hh =>
  obtain ⟨k1,k2,k3⟩:=ztj (Rds.mk hvl hh) (ix:=[(len,n,i)]) ⟨hi,trivial⟩ hp
  simp only[ixN,Nat.zero_add,Nat.add_zero] at k2 k3
  refine Does.value (v:=if t then .agg ((vs.drop (i.toNat*n)).take n).toArray else ((vs.drop (i.toNat*n)).take n).getD 0 undef) (w':=w) ?_ ⟨nu,.refl _,h,zic k2 (fun ht=>by rw[k1];exact h1 ht)⟩
  cases t with
  | true =>
   have e1:vs.toArray.extract (i.toNat*n) (i.toNat*n+n)=((vs.drop (i.toNat*n)).take n).toArray:=by
    simp[List.extract_eq_take_drop]
   simp[execOp,ho,hv,hw,Instr.index,asIntOf,run_underlying hT,hi,part,zj ht w,zj hn w,e1]
  | false =>
   have hn1:=h1 rfl
   subst hn1
   have hlt:i.toNat < vs.length:=by have:=k3 0 (by omega);omega
   have e2:vs[i.toNat]?=some vs[i.toNat]:=yy3 hlt
   have e3:((vs.drop (i.toNat*1)).take 1).getD 0 undef=vs[i.toNat]:=by
    rw[yy0,List.getElem?_take_of_lt (by omega),List.getElem?_drop,Nat.mul_one,Nat.add_zero,e2];rfl
   simp only[Bool.false_eq_true,if_false,e3]
   simp[execOp,ho,hv,hw,Instr.index,asIntOf,run_underlying hT,hi,part,zj ht w,zj hn w,e2]
end sound
def Sl.cut (a b:Nat):Sl→Sl
 | .ints l=>.ints ((l.drop a).take (b - a))
 | .strs l=>.strs ((l.drop a).take (b - a))
 | .bytes l=>.bytes ((l.drop a).take (b - a))
 | .powers l=>.powers ((l.drop a).take (b - a))
 | .packets l=>.packets ((l.drop a).take (b - a))
 | .waits l=>.waits ((l.drop a).take (b - a))
 | .asked l=>.asked ((l.drop a).take (b - a))
 | .ripes l=>.ripes ((l.drop a).take (b - a))
 | .deeds l=>.deeds ((l.drop a).take (b - a))
 | .replies l=>.replies ((l.drop a).take (b - a))
 | .orders l=>.orders ((l.drop a).take (b - a))
 | .carries l=>.carries ((l.drop a).take (b - a))
 | .intss l=>.intss ((l.drop a).take (b - a))
theorem zaka {α:Type} (l:List α) (a b k:Nat) (d:α) (h:k < b - a):((l.drop a).take (b - a)).getD k d=l.getD (a+k) d:=by
 rw[yy0,List.getElem?_take_of_lt h,List.getElem?_drop,← yy0]
theorem zacw (s:Sl) (a b:Nat) (h1:a≤b) (h2:b≤s.len):(s.cut a b).len=b - a∧(s.cut a b).sz=s.sz∧∀ k c,k < b - a→(s.cut a b).cell k c=s.cell (a+k) c:=by
 cases s<;>simp only[Sl.len] at h2<;>refine ⟨?_,rfl,fun k c hk=>?_⟩<;>first
  | (simp only[Sl.cut,Sl.len,List.length_take,List.length_drop];omega)
  | (simp only[Sl.cut,Sl.cell,Sl.row,zaka _ _ _ _ _ hk])
def zzf (d:Nat):Option AV→Option Int
 | none=>some d
 | some (.val (.int _ i))=>some i
 | _=>none
section sound
variable {P:Program} {G:Gl} {blks:List Blk} {nu:Nat→Option Value} {w:World} (h:MInv G blks nu w)
include h
omit h in
theorem z1s {C:Cx} {d:Nat} {x:Option AV} {i:Int} (hx:zzf d x=some i) {v:Option Value} (hv:(x=none∧v=none)∨∃ a u,x=some a∧v=some u∧Rd C a u) :
  (v=none∧i=d)∨∃ k,v=some (.int k i):=by
 rcases hv with ⟨rfl,rfl⟩ | ⟨a,u,rfl,rfl,hr⟩
 ·simp only[zzf,yy1] at hx
  exact .inl ⟨rfl,hx.symm⟩
 ·unfold zzf at hx
  split at hx
  ·rename_i e;cases e
  ·rename_i k i' e
   simp only[yy1] at e hx
   subst e;subst hx
   cases hr
   exact .inr ⟨_,rfl⟩
  ·cases hx
omit h in
theorem znz {isSlice:Bool} {len cap:Nat} {lo hi:Option Value} {l r:Int} (hlo:(lo=none∧l=0)∨∃ k,lo=some (.int k l)) (hhi:(hi=none∧r=len)∨∃ k,hi=some (.int k r))
  (h0:0≤l) (h1:l≤r) (h2:r≤(len:Int)) (h3:len≤cap) (w:World):(Instr.sliceBounds isSlice len cap lo hi none).run P w=.ok (l.toNat,r.toNat,cap) w:=by
 have er:(r.toNat:Int)=r:=Int.toNat_of_nonneg (by omega)
 rcases hlo with ⟨rfl,rfl⟩ | ⟨k,rfl⟩<;>rcases hhi with ⟨rfl,rfl⟩ | ⟨k',rfl⟩
 ·simp[Instr.sliceBounds]
 ·have hb:=run_sliceBound (P:=P) w k' r cap (if isSlice then .sliceAcap else .sliceAlen) (by omega) (by omega)
  simp[Instr.sliceBounds,hb]
 ·have hb:=run_sliceBound (P:=P) w k l len .sliceB h0 (by omega)
  simp[Instr.sliceBounds,hb]
 ·have hb':=run_sliceBound (P:=P) w k' r cap (if isSlice then .sliceAcap else .sliceAlen) (by omega) (by omega)
  have hb:=run_sliceBound (P:=P) w k l r.toNat .sliceB h0 (by omega)
  simp[Instr.sliceBounds,hb,hb']
theorem z57 {o:Oper} {T:TypeId} {x:Operand} {lo hi:Option Operand} {e:Operand→Value} {g:Operand→AV} {s:ByteArray} {l r:Int} (ho:o.op=.slice T x lo hi none) (hT:P.underlying T=some .string)
  (hg:∀ x,Rd (cx G blks nu w) (g x) (e x)) (hx:g x=.val (.string s)) (hl:zzf 0 (lo.map g)=some l) (hr:zzf s.size (hi.map g)=some r) (hb:0≤l∧l≤r∧r≤(s.size:Int)) :
  Does P o e w (zf1 G blks nu w ⟨[0≤l∧l≤r∧r≤(s.size:Int)],.val (.string (s.extract l.toNat r.toNat)),[]⟩):=by
 have hv:e x=.string s:=by
  have:=hg x;rw[hx] at this
  generalize e x=v at this
  cases this;rfl
 have conv:∀ q:Option Operand,(q.map g=none∧q.map e=none)∨∃ a u,q.map g=some a∧q.map e=some u∧Rd (cx G blks nu w) a u:=by
  intro q
  cases q with
  | none=>exact .inl ⟨rfl,rfl⟩
  | some z=>exact .inr ⟨_,_,rfl,rfl,hg z⟩
 have h1:=z1s hl (conv lo)
 have h2:=z1s hr (conv hi)
 have hrun:=znz (P:=P) (isSlice:=false) (len:=s.size) (cap:=s.size) (lo:=lo.map e) (hi:=hi.map e) (l:=l) (r:=r) h1 h2 hb.1 hb.2.1 hb.2.2 (Nat.le_refl _) w
 refine Does.value (v:=.string (s.extract l.toNat r.toNat)) (w':=w) ?_ ⟨nu,.refl _,h,.val⟩
 simp[execOp,ho,hv,run_sliceAt_string w T _ _ _ _ hT,Instr.slice,run_underlying hT,hrun]
theorem z78 {o:Oper} {T E:TypeId} {x:Operand} {lo hi:Option Operand} {e:Operand→Value} {g:Operand→AV} {s:Sl} {l r:Int} (ho:o.op=.slice T x lo hi none) (hT:P.underlying T=some (.slice E))
  (hn:zi P (sizeOf E)=some s.sz)
  (hg:∀ x,Rd (cx G blks nu w) (g x) (e x)) (hx:g x=.sl s) (hl:zzf 0 (lo.map g)=some l) (hr:zzf s.len (hi.map g)=some r) (hb:0≤l∧l≤r∧r≤(s.len:Int)) :
  Does P o e w (zf1 G blks nu w ⟨[0≤l∧l≤r∧r≤(s.len:Int)],.sl (s.cut l.toNat r.toNat),[]⟩):=by
 have conv:∀ q:Option Operand,(q.map g=none∧q.map e=none)∨∃ a u,q.map g=some a∧q.map e=some u∧Rd (cx G blks nu w) a u:=by
  intro q
  cases q with
  | none=>exact .inl ⟨rfl,rfl⟩
  | some z=>exact .inr ⟨_,_,rfl,rfl,hg z⟩
 have h1:=z1s hl (conv lo)
 have h2:=z1s hr (conv hi)
 obtain ⟨c1,c2,c3⟩:=zacw s l.toNat r.toNat (by omega) (by omega)
 have helem:P.elem T=E:=by simp[Program.elem,hT]
 have hv:=hg x
 rw[hx] at hv
 have hat:(Instr.sliceAt T (e x) (lo.map e) (hi.map e) none).run P w=(Instr.slice T (e x) (lo.map e) (hi.map e) none).run P w:=run_sliceAt_slice w T _ _ _ _ (by rw[hT,helem])
 generalize hvv:e x=v at hv hat
 cases hv with
 | slnil h0 =>
  have hrun:=znz (P:=P) (isSlice:=true) (len:=0) (cap:=0) (lo:=lo.map e) (hi:=hi.map e) (l:=l) (r:=r) h1 (by rw[h0] at h2;exact h2) hb.1 hb.2.1 (by omega) (Nat.le_refl _) w
  have e0:l.toNat=0:=by omega
  have e1:r.toNat=0:=by omega
  rw[e0,e1] at hrun
  refine Does.value (v:=.slice none 0 0) (w':=w) ?_ ⟨nu,.refl _,h,.slnil (by rw[c1];omega)⟩
  simp[execOp,ho,hvv,hat,Instr.slice,run_underlying hT,hrun,zj hn w]
 | sl a cap gg hm hc hcell hL hrd =>
  have hrun:=znz (P:=P) (isSlice:=true) (len:=s.len) (cap:=cap) (lo:=lo.map e) (hi:=hi.map e) (l:=l) (r:=r) h1 h2 hb.1 hb.2.1 hb.2.2 hc w
  refine Does.value (v:=.slice (some (if cap=l.toNat then a else a.add (l.toNat*s.sz))) (r.toNat - l.toNat) (cap - l.toNat)) (w':=w) ?_ ?_
  ·simp only[execOp,ho,hvv,hat,Option.map_none,Instr.slice,Sem.run_bind,run_underlying hT,Result.andThen_ok,hrun,zj hn w,Sem.run_pure]
   congr 2
   split<;>simp_all
  ·refine ⟨nu,.refl _,h,?_⟩
   by_cases hz:r.toNat - l.toNat=0
   ·rw[← c1] at hz
    have hr2:Rd (cx G blks nu w) (.sl (s.cut l.toNat r.toNat)) (.slice (some (if cap=l.toNat then a else a.add (l.toNat*s.sz))) (s.cut l.toNat r.toNat).len (cap - l.toNat)) :=
     .sl _ _ (fun _ _=>undef) (by omega) (by omega) (fun k c hk=>by omega) (fun hp=>by omega) (fun k c hk=>by omega)
    rwa [c1] at hr2
   ·have hcl:cap≠l.toNat:=by omega
    rw[if_neg hcl]
    have hsp:a.spot=none:=by
     have h0:0 < s.len:=by omega
     have h1:=hcell 0 0 h0 (zpl s)
     simp only[Nat.zero_mul,Nat.add_zero] at h1
     have e0:a.add 0=a:=by simp[Addr.add]
     rw[e0] at h1
     unfold World.cell? at h1
     split at h1
     ·split at h1
      ·cases h1
      ·rename_i h2;simpa using h2
     ·cases h1
    have hr2:Rd (cx G blks nu w) (.sl (s.cut l.toNat r.toNat)) (.slice (some (a.add (l.toNat*s.sz))) (s.cut l.toNat r.toNat).len (cap - l.toNat)):=by
     refine .sl _ _ (fun k c=>gg (l.toNat+k) c) (by omega) (by omega) (fun k c hk hcc=>?_) (fun _=>by rw[zan];exact hL (by omega)) (fun k c hk hcc=>?_)
     ·rw[c2] at hcc ⊢
      rw[zaaq a hsp,← Nat.add_assoc,← Nat.add_mul]
      exact hcell _ c (by omega) hcc
     ·rw[c2] at hcc
      rw[c3 k c (by omega)]
      exact hrd _ c (by omega) hcc
    rwa [c1] at hr2
theorem z58 {o:Oper} {T:TypeId} {x y:Operand} {e:Operand→Value} {s:ByteArray} {k:IntKind} {i:Int} (ho:o.op=.index T x y) (hT:P.underlying T=some .string)
  (hx:Rd (cx G blks nu w) (.val (.string s)) (e x)) (hy:Rd (cx G blks nu w) (.val (.int k i)) (e y)) (hi:0≤i∧i < (s.size:Int)) :
  Does P o e w (zf1 G blks nu w ⟨[0≤i∧i < (s.size:Int)],.val (.int .u8 ((s.data.toList.getD i.toNat 0).toNat:Nat)),[]⟩):=by
 generalize hv:e x=v at hx
 generalize hw:e y=b at hy
 cases hx
 cases hy
 have hlt:i.toNat < s.size:=by omega
 have e1:s[i.toNat]?=some (s.data.toList.getD i.toNat 0):=by
  have hlt':i.toNat < s.data.toList.length:=by simpa using hlt
  rw[yy0,yy3 hlt']
  simp[getElem?_pos,hlt]
  rfl
 refine Does.value (v:=.int .u8 ((s.data.toList.getD i.toNat 0).toNat:Nat)) (w':=w) ?_ ⟨nu,.refl _,h,.val⟩
 simp[execOp,ho,hv,hw,Instr.index,asIntOf,run_underlying hT,hi.1,e1]
theorem zaep {o:Oper} {T U E:TypeId} {x:Operand} {e:Operand→Value} {s:ByteArray} (ho:o.op=.convert T U x) (hT:P.underlying T=some .string) (hU:P.underlying U=some (.slice E)) (hE:P.underlying E=some (.int .u8))
  (hx:Rd (cx G blks nu w) (.val (.string s)) (e x)) (hs:s.size≤9223372036854775807):Does P o e w (zf1 G blks nu w ⟨[s.size≤9223372036854775807],.sl (.bytes s.data.toList),[]⟩):=by
 generalize hv:e x=v at hx
 cases hx
 have hrun:=run_bytes_of_string (P:=P) w T U E s hT hU hE
 generalize hcap:grownCap w s.size 0 E=cap at hrun
 let w':=w.drew.alloc (.cells (bytesRow s cap) E ((bytesRow s cap).size,(bytesRow s cap).size+1))
 have hheap:w'.heap=w.heap.push (.cells (bytesRow s cap) E ((bytesRow s cap).size,(bytesRow s cap).size+1)):=rfl
 obtain ⟨m1,m2⟩:=h.step (w':=w') (blks':=blks) (nu':=nu) (fun _=>False) (fun _ _ h=>h) (fun b hb _=>by rw[hheap,Array.getElem?_push_lt hb,Array.getElem?_eq_getElem hb]) (by rw[hheap,Array.size_push];omega) rfl rfl rfl (fun _ _=>rfl) (fun _ _=>rfl) (fun _ _ h=>h.elim)
  (fun _ _ _ h=>h.elim) (fun _ _ _ _ _ _ h=>h.elim)
 have hcell:∀ k,k < s.data.toList.length→w'.cell? ((⟨w.heap.size,0,none⟩:Addr).add k)=some (.int .u8 ((s.data.toList.getD k 0).toNat:Nat)):=by
  intro k hk
  have hk':k < s.data.size:=by simpa using hk
  have hb:w'.heap[w.heap.size]?=some (.cells (bytesRow s cap) E ((bytesRow s cap).size,(bytesRow s cap).size+1)):=by rw[hheap];exact Array.getElem?_push_size
  rw[z7,Nat.zero_add]
  have:=cell_of_row w' w.heap.size k (bytesRow s cap) E ((bytesRow s cap).size,(bytesRow s cap).size+1) hb
  rw[this,bytesRow_at s cap k hk',yy0,yy3 hk]
  simp
 refine Does.value (v:=.slice (some ⟨w.heap.size,0,none⟩) s.size cap) (w':=w') (by simp only[execOp,ho,hv,Sem.run_bind,hrun,Result.andThen_ok,Sem.run_pure];rfl) ⟨nu,m1,m2,?_⟩
 have hlen:s.data.toList.length=s.size:=Array.length_toList
 have hnl:∀ b,¬ (cx G blks nu w').L b∨b < w.heap.size:=by
  intro b
  by_cases hb:b < w.heap.size
  ·exact .inr hb
  ·left
   rintro (h0 | ⟨j,u,h1,h2,h3⟩)
   ·have:=G.lt b h0;have:=h.size;omega
   ·have:=(h.low j u b h1 h2 h3).1;omega
 have hcapge:s.size≤cap:=by
  rw[← hcap]
  exact grownCap_ge w s.size 0 E
 have hr:Rd (cx G blks nu w') (.sl (.bytes s.data.toList)) (.slice (some ⟨w.heap.size,0,none⟩) (Sl.bytes s.data.toList).len cap):=by
  refine .sl _ _ (fun k _=>.int .u8 ((s.data.toList.getD k 0).toNat:Nat)) (by show s.data.toList.length≤maxLen;unfold maxLen;omega) (by show s.data.toList.length≤cap;omega) (fun k c hk hc=>?_) (fun _=>?_) (fun k c hk hc=>?_)
  ·have hc0:c=0:=by have:c < 1:=hc;omega
   subst hc0
   have:=hcell k hk
   show w'.cell? ((⟨w.heap.size,0,none⟩:Addr).add (k*1+0))=_
   rwa [Nat.mul_one,Nat.add_zero]
  ·rcases hnl w.heap.size with q | q
   ·exact q
   ·omega
  ·have hc0:c=0:=by have:c < 1:=hc;omega
   subst hc0
   exact Rd.val
 rwa [show (Sl.bytes s.data.toList).len=s.size from hlen] at hr
theorem zaar {o:Oper} {T U E:TypeId} {x:Operand} {e:Operand→Value} {l:List UInt8} (ho:o.op=.convert T U x) (hU:P.underlying U=some .string) (hT:P.underlying T=some (.slice E)) (hE:P.underlying E=some (.int .u8))
  (hx:Rd (cx G blks nu w) (.sl (.bytes l)) (e x)):Does P o e w (zf1 G blks nu w ⟨[],.val (.string ⟨l.toArray⟩),[]⟩):=by
 generalize hv:e x=v at hx
 cases hx with
 | slnil h0 =>
  have hl:l=[]:=List.eq_nil_of_length_eq_zero h0
  subst hl
  refine Does.value (v:=.string ⟨#[]⟩) (w':=w) ?_ ⟨nu,.refl _,h,.val⟩
  have:=run_convert_bytes_nil (P:=P) w T E hT hE 0 0 U hU
  simp only[execOp,ho,hv,Sem.run_bind,this,Result.andThen_ok,Sem.run_pure]
  rfl
 | sl a cap g hm hc hcell hL hrd =>
  refine Does.value (v:=.string ⟨l.toArray⟩) (w':=w) ?_ ⟨nu,.refl _,h,.val⟩
  have:=run_convert_bytes_back (P:=P) w T U E a cap l hT hE hU (fun j hj=>by
   have h1:=hcell j 0 hj (zpl _)
   simp only[Sl.sz,Nat.mul_one,Nat.add_zero] at h1
   have h2:=hrd j 0 hj (zpl _)
   rw[show (cx G blks nu w).w=w from rfl] at h1
   rw[h1]
   generalize g j 0=u at h2
   simp only[Sl.cell,Sl.row,List.getD_cons_zero] at h2
   cases h2
   rw[yy0,yy3 hj]
   rfl)
  show _=_
  simp only[execOp,ho,hv,Sem.run_bind,Sl.len,this,Result.andThen_ok,Sem.run_pure]
theorem z4s {o:Oper} {op:BinOp} {T U:TypeId} {x y:Operand} {e:Operand→Value} {k k':IntKind} {u v:Int} (hop:op=.shl∨op=.shr) (ho:o.op=.binOp op T x y U)
  (hx:Rd (cx G blks nu w) (.val (.int k u)) (e x)) (hy:Rd (cx G blks nu w) (.val (.int k' v)) (e y)) (hr:0≤v) :
  ∀ ob,Does P o e w (zf1 G blks nu w ⟨ob,.val (.int k (if op=.shl then k.wrap (u*2 ^ (min v.toNat k.bits)) else u.fdiv (2 ^ (min v.toNat k.bits)))),[]⟩):=by
 intro ob
 generalize hv:e x=a at hx
 generalize hw:e y=b at hy
 cases hx;cases hy
 have hn:¬ v < 0:=by omega
 rcases hop with rfl | rfl
 ·refine Does.value (v:=.int k (k.wrap (u*2 ^ (min v.toNat k.bits)))) (w':=w) ?_ ⟨nu,.refl _,h,.val⟩
  simp[execOp,ho,hv,hw,eqGuard,binOp,Op.shift,hn]
 ·refine Does.value (v:=.int k (u.fdiv (2 ^ (min v.toNat k.bits)))) (w':=w) ?_ ⟨nu,.refl _,h,.val⟩
  simp[execOp,ho,hv,hw,eqGuard,binOp,Op.shift,hn]
theorem zakb {o:Oper} {T E:TypeId} {x:Operand} {e:Operand→Value} {j off n m:Nat} (ho:o.op=.slice T x none none none) (hT:P.underlying T=some (.array (n+1) E)) (hm:zi P (sizeOf E)=some m)
  (hx:Rd (cx G blks nu w) (.ptr j off) (e x)):Does P o e w (zf1 G blks nu w ⟨[],.win j off (n+1),[]⟩):=by
 generalize hv:e x=v at hx
 cases hx with
 | @ptr _ _ b hb =>
  refine Does.value (v:=.slice (some ⟨b,off,none⟩) (n+1) (n+1)) (w':=w) ?_ (zam h (.win hb))
  have e0:(⟨b,off,none⟩:Addr).add 0=⟨b,off,none⟩:=by rw[z7,Nat.add_zero]
  simp[execOp,ho,hv,Instr.sliceAt,run_underlying hT,Instr.sureAddr,Instr.sliceBounds,zj hm w,e0]
omit h in
theorem z30 {blks:List Blk} {nu:Nat→Option Value} {w:World} (h:MInv G blks nu w) {o:Oper} {x y:Operand} {t:TypeId} {e:Operand→Value} {E:TypeId} {bytes:Nat} {j off len:Nat} {U:TypeId} {cs:List AV}
  {s0 s u r:Sl} {ob:List Prop} {id:Nat} (ho:o.op=.call { callee:=.builtin .append,args:=#[x,y],argTypes:=#[t,t] }) (hi:zn6 P t=some (E,s0.sz,bytes)) (h0:s0.len=0)
  (hx:Rd (cx G blks nu w) (.win j off len) (e x)) (hb:blks.getD j .dead=.cells U cs) (hlen:((cs.drop off).take (len*s0.sz)).length=len*s0.sz)
  (hpush:zr1 len s0 ((cs.drop off).take (len*s0.sz))=some (ob,s)) (hob:zuz ob) (happ:s.app u=some r) (hsrc:Src (cx G blks nu w) u (e y)) (hu:0 < u.len)
  (hf:blks.getD id .dead=.free) (hbytes:(s.len+u.len)*bytes≤140737488355328) :
  Does P o e w (zf1 G blks nu w ⟨ob++[(s.len+u.len)*bytes≤140737488355328,0 < u.len],.own id,[(id,.rows E r)]⟩):=by
 obtain ⟨hT,i,z,hi1,hz,hzs,hsz,hby,hpos⟩:=zl6 hi
 obtain ⟨p1,p2,p3,_,p5⟩:=ztg len hpush hob
 rw[h0,Nat.zero_add] at p1
 have hk:=h.ok j
 rw[hb] at hk
 obtain ⟨b,vs,e1,e2,e3⟩:=hk
 obtain ⟨news,hl,hrd,hcase⟩:=hsrc
 obtain ⟨a1,a2,a3,a4,a5⟩:=zacu happ
 have hsum:s.len+u.len≤140737488355328:=Nat.le_trans (Nat.le_mul_of_pos_right _ hpos) hbytes
 have hmax:s.len+u.len≤maxLen:=by unfold maxLen;omega
 have hz0:=zpl s0
 generalize hv:e x=v at hx
 cases hx with
 | @win _ _ _ b' e4 =>
  have:b=b':=by have:=e1.symm.trans e4;simpa using this
  subst this
  rcases hcase with ⟨hy,hu0⟩ | ⟨a,c,hy,hcells⟩
  ·omega
  ·have hr0:Rds (cx G blks nu w) ((cs.drop off).take (len*s0.sz)) ((vs.drop off).take (len*s0.sz)):=(e3.drop off).take _
   have holen:((vs.drop off).take (len*s0.sz)).length=len*s0.sz:=by rw[hr0.1];exact hlen
   obtain ⟨v',w',hrun,k1,k2⟩:=run_append_arg_grows (P:=P) w t o.type E i z s0.sz bytes hT hi1 hz hsz hby (hzs.trans hsz) hz0 ⟨b,off,none⟩ len len ((vs.drop off).take (len*s0.sz)) holen
    (fun q u' hq=>by
     rw[z7,cell_of_row w b (off+q) vs.toArray U (0,0) e2]
     have hin:q < len*s0.sz:=by have:=(List.getElem?_eq_some_iff.1 hq).1;omega
     rw[List.getElem?_take_of_lt hin,List.getElem?_drop] at hq
     simpa using hq) a u.len c news (by rw[hl,a3,p2]) hcells (by omega) (by rw[← p1];exact hmax) (by rw[← p1];exact hbytes)
   have hown':w'.ownsRow w.heap.size E r.sz v' r.len (((vs.drop off).take (len*s0.sz))++news):=by rw[a2,a1,p2,p1];exact k1
   have hown0:w'.ownsRow 0 E r.sz v' r.len (((vs.drop off).take (len*s0.sz))++news):=by
    refine ⟨hown'.1,hown'.2.imp (fun q=>q) ?_⟩
    rintro ⟨g,cap,cur,q1,_,q2⟩
    exact ⟨g,cap,cur,q1,Nat.zero_le _,q2⟩
   have hread:∀ C',(cx G blks nu w).Le C'→∀ k c,k < r.len→c < r.sz→Rd C' (r.cell k c) ((((vs.drop off).take (len*s0.sz))++news).getD (k*r.sz+c) undef):=by
    intro C' hle k c hk hc
    rw[a2,p2] at hc ⊢
    by_cases hks:k < s.len
    ·have hlt:k*s0.sz+c < ((vs.drop off).take (len*s0.sz)).length:=by
      rw[holen]
      calc k*s0.sz+c < k*s0.sz+s0.sz:=by omega
       _=(k+1)*s0.sz:=by rw[Nat.add_mul,Nat.one_mul]
       _≤len*s0.sz:=Nat.mul_le_mul_right _ (by omega)
     rw[zkz hlt,a4 k c hks]
     have:=p5 _ _ hr0 k c (by omega) hc
     rw[h0,Nat.zero_add] at this
     exact this.mono hle
    ·obtain ⟨q,rfl⟩:∃ q,k=s.len+q:=⟨k - s.len,by omega⟩
     have e1:(s.len+q)*s0.sz+c=((vs.drop off).take (len*s0.sz)).length+(q*s0.sz+c):=by rw[holen,p1,Nat.add_mul];omega
     rw[e1,zze,a5]
     have:=hrd q c (by omega) (by rw[a3,p2];exact hc)
     rw[a3,p2] at this
     exact this.mono hle
   obtain ⟨nu',k5,k6,k7⟩:=h.putRow (blks1:=blks) (old:=none) (row:=none) (w':=w') hf rfl (fun _ _ _=>rfl) (fun _ h=>by cases h) hown0 (by rw[a1];exact hmax) hread k2 (fun b hb=>by cases hb)
    (.inr fun b hb=>(hown'.lt b (by rw[← zp7 hown'];exact hb)).1)
   refine Does.value (v:=v') (w':=w') ?_ ⟨nu',by simpa[upd] using k5,by simpa[upd] using k6,.own k7⟩
   simp[execOp,ho,resolve,invoke,builtin,hv,hy,hrun,Result.andThen]
end sound
def Sl.put (s:Sl) (k:Nat) (cs:List AV):Option Sl :=
 match s with
 | .ints l=>match cs with
  | [a]=>(aI a).map fun n=>.ints (l.set k n)
  | _=>none
 | .strs l=>match cs with
  | [a]=>(aS a).map fun n=>.strs (l.set k n)
  | _=>none
 | .powers l=>(z06 cs).map fun p=>.powers (l.set k p)
 | .packets l=>(zxp cs).map fun p=>.packets (l.set k p)
 | .waits l=>(z54 cs).map fun p=>.waits (l.set k p)
 | .asked l=>(z07 cs).map fun p=>.asked (l.set k p)
 | .ripes l=>(z55 cs).map fun p=>.ripes (l.set k p)
 | .deeds l=>(z56 cs).map fun p=>.deeds (l.set k p)
 | .replies l=>(z08 cs).map fun p=>.replies (l.set k p)
 | .orders l=>(z09 cs).map fun p=>.orders (l.set k p)
 | .carries l=>(z1a cs).map fun p=>.carries (l.set k p)
 | _=>none
theorem zws {α:Type} {l:List α} {k:Nat} {x d:α} (h:k < l.length):(l.set k x).getD k d=x:=by
 rw[yy0,List.getElem?_set_self h];rfl
theorem ztp {α:Type} {l:List α} {k i:Nat} {x d:α} (h:i≠k):(l.set k x).getD i d=l.getD i d:=by
 rw[yy0,List.getElem?_set_ne (fun e=>h e.symm),← yy0]
theorem zakx {s r:Sl} {k:Nat} {cs:List AV} (h:s.put k cs=some r) (hk:k < s.len):r.len=s.len∧r.sz=s.sz∧cs.length=s.sz∧(∀ i c,i≠k→r.cell i c=s.cell i c)∧∀ C,Conv C cs (r.row k):=by
 cases s<;>simp only[Sl.put,reduceCtorEq] at h<;>simp only[Sl.len] at hk
 ·split at h
  ·obtain ⟨n,hn,h⟩:=Option.map_eq_some_iff.1 h
   subst h
   refine ⟨by simp[Sl.len],rfl,rfl,fun i c hi=>by simp only[Sl.cell,Sl.row];rw[ztp hi],fun C=>?_⟩
   simp only[Sl.row,zws hk]
   exact zn (fun _ q=>zfn hn q) zgq
  ·cases h
 ·split at h
  ·obtain ⟨n,hn,h⟩:=Option.map_eq_some_iff.1 h
   subst h
   refine ⟨by simp[Sl.len],rfl,rfl,fun i c hi=>by simp only[Sl.cell,Sl.row];rw[ztp hi],fun C=>?_⟩
   simp only[Sl.row,zws hk]
   exact zn (fun _ q=>zaow hn q) zgq
  ·cases h
 all_goals
  obtain ⟨n,hn,h⟩:=Option.map_eq_some_iff.1 h
  subst h
  refine ⟨by simp[Sl.len],rfl,?_,fun i c hi=>by simp only[Sl.cell,Sl.row];rw[ztp hi],fun C=>?_⟩
  ·first | exact (znh hn).1 | exact (zlv hn).1 | exact (zph hn).1 | exact (zni hn).1 | exact (zpi hn).1 | exact (zpj hn).1 | exact (znj hn).1 | exact (znk hn).1 | exact (znl hn).1
  ·simp only[Sl.row,zws hk]
   first | exact (znh hn).2 C | exact (zlv hn).2 C | exact (zph hn).2 C | exact (zni hn).2 C | exact (zpi hn).2 C | exact (zpj hn).2 C | exact (znj hn).2 C | exact (znk hn).2 C | exact (znl hn).2 C
theorem zk1? {α:Type} {l us:List α} {p:Nat} (h:p+us.length≤l.length) (q:Nat) :
  (l.take p++us++l.drop (p+us.length))[q]?=if q < p then l[q]? else if q < p+us.length then us[q - p]? else l[q]?:=by
 have hp:(l.take p).length=p:=by rw[List.length_take];omega
 by_cases h1:q < p
 ·rw[if_pos h1,List.append_assoc,List.getElem?_append_left (by rw[hp];exact h1),List.getElem?_take_of_lt h1]
 ·rw[if_neg h1]
  by_cases h2:q < p+us.length
  ·rw[if_pos h2,List.append_assoc,List.getElem?_append_right (by rw[hp];omega),List.getElem?_append_left (by rw[hp];omega),hp]
  ·rw[if_neg h2,List.getElem?_append_right (by rw[yy6,hp];omega),yy6,hp,List.getElem?_drop]
   congr 1;omega
theorem zho {α:Type} {l us:List α} {p:Nat} (h:p+us.length≤l.length):(l.take p++us++l.drop (p+us.length)).length=l.length:=by
 simp only[yy6,List.length_take,List.length_drop];omega
theorem zwt {α:Type} {l us:List α} {p m:Nat} (h:p+us.length≤m) (hm:m≤l.length) :
  (l.take p++us++l.drop (p+us.length)).take m=(l.take m).take p++us++(l.take m).drop (p+us.length):=by
 have hml:(l.take m).length=m:=by rw[List.length_take];omega
 apply List.ext_getElem?
 intro q
 rw[zk1? (l:=l.take m) (by rw[hml];exact h)]
 by_cases hq:q < m
 ·rw[List.getElem?_take_of_lt hq,zk1? (by omega),List.getElem?_take_of_lt hq]
 ·rw[List.getElem?_eq_none (by rw[List.length_take];omega),if_neg (by omega),if_neg (by omega),List.getElem?_eq_none (by omega)]
section sound
variable {P:Program} {G:Gl} {blks:List Blk} {nu:Nat→Option Value} {w:World} (h:MInv G blks nu w)
include h
theorem z62 {o:Oper} {T E F:TypeId} {x y:Operand} {e:Operand→Value} {j:Nat} {s:Sl} {k:IntKind} {i:Int} (ho:o.op=.indexAddr T x y)
  (hx:Rd (cx G blks nu w) (.own j) (e x)) (hb:blks.getD j .dead=.rows F s) (hy:Rd (cx G blks nu w) (.val (.int k i)) (e y)) (hT:P.underlying T=some (.slice E)) (hn:zi P (sizeOf E)=some s.sz)
  (hi:0≤i∧i < (s.len:Int)):Does P o e w (zf1 G blks nu w ⟨[0≤i∧i < (s.len:Int)],.rptr j s.sz 0 i,[]⟩):=by
 have hk:=h.ok j
 rw[hb] at hk
 obtain ⟨v,vs,e1,e2,e3,e4⟩:=hk
 generalize hv:e x=u at hx
 generalize hw:e y=b at hy
 cases hy
 cases hx with
 | own hn2 =>
  have:u=v:=by have:=hn2.symm.trans e1;simpa using this
  subst this
  rcases e2.2 with ⟨_,h0⟩ | ⟨g,cap,cur,rfl,_,_⟩
  ·omega
  ·refine Does.value (v:=.pointer (some ((⟨g,0,none⟩:Addr).add (i.toNat*s.sz)))) (w':=w) ?_ ⟨nu,.refl _,h,?_⟩
   ·simp[execOp,ho,hv,hw,Instr.indexAt,asIntOf,run_underlying hT,hi,zj hn w]
   ·rw[z7,Nat.zero_add]
    exact Rd.rptr (off:=0) hn2 hi
omit h in
theorem zx5 {C:Cx} {base:Nat} {E:TypeId} {s:Sl} {g n cap:Nat} {vs:List Value} (e2:C.w.ownsRow base E s.sz (.slice (some ⟨g,0,none⟩) n cap) s.len vs):n=s.len∧vs.length=s.len*s.sz ∧
  ∃ cur,C.w.heap[g]?=some (.cells cur E (0,0))∧s.len*s.sz≤cur.size∧cur.toList.take (s.len*s.sz)=vs∧s.len≤cap∧cap≤maxLen∧cur.size=cap*s.sz:=by
 obtain ⟨q1,q2⟩:=e2
 rcases q2 with ⟨q3,_⟩ | ⟨g',cap',cur,q3,_,q4,q5,q6,q7,q8⟩
 ·cases q3
 ·simp only[Value.slice.injEq,yy1,Addr.mk.injEq,and_true] at q3
  obtain ⟨rfl,rfl,rfl⟩:=q3
  exact ⟨rfl,q1,cur,q4,by rw[q7];exact Nat.mul_le_mul_right _ q5,q8,q5,q6,q7⟩
theorem z4b {o:Oper} {T F:TypeId} {x:Operand} {e:Operand→Value} {j sz off:Nat} {i:Int} {s:Sl} {t:Bool} {n:Nat} (ho:o.op=.load T x)
  (hx:Rd (cx G blks nu w) (.rptr j sz off i) (e x)) (hb:blks.getD j .dead=.rows F s) (hsz:sz=s.sz) (ht:zi P (isAgg T)=some t) (hn:zi P (sizeOf T)=some n)
  (h1:t=false→n=1) (hl:(((s.row i.toNat).drop off).take n).length=n):Does P o e w (zf1 G blks nu w ⟨[],zm8 t (((s.row i.toNat).drop off).take n),[]⟩):=by
 subst hsz
 have hk:=h.ok j
 rw[hb] at hk
 obtain ⟨v,vs,e1,e2,e3,e4⟩:=hk
 generalize hv:e x=u at hx
 cases hx with
 | @rptr _ _ _ g m cap _ hnj hi =>
  have:v=.slice (some ⟨g,0,none⟩) m cap:=by have:=e1.symm.trans hnj;simpa using this
  subst this
  obtain ⟨rfl,hvl,cur,hg,hcs,htk,_⟩:=zx5 (C:=cx G blks nu w) e2
  have hlen:off+n≤s.sz∨n=0:=by
   rw[List.length_take,List.length_drop,Sl.row_length] at hl
   omega
  have hk:i.toNat < s.len:=by omega
  have hin:∀ c,c < n→i.toNat*s.sz+(off+c) < vs.length:=fun c hc=>by
   rw[hvl]
   calc i.toNat*s.sz+(off+c) < i.toNat*s.sz+s.sz:=by omega
    _=(i.toNat+1)*s.sz:=by rw[Nat.add_mul,Nat.one_mul]
    _≤s.len*s.sz:=Nat.mul_le_mul_right _ hk
  have hr:Rds (cx G blks nu w) (((s.row i.toNat).drop off).take n) ((vs.drop (i.toNat*s.sz+off)).take n):=by
   refine ⟨?_,fun c hc=>?_⟩
   ·rw[hl,List.length_take,List.length_drop]
    rcases Nat.eq_zero_or_pos n with h0 | h0
    ·omega
    ·have:=hin (n - 1) (by omega);omega
   ·rw[hl] at hc
    have:=e3 i.toNat (off+c) hk (by omega)
    unfold Sl.cell at this
    rw[yy0 (l:=((s.row i.toNat).drop off).take n),List.getElem?_take_of_lt hc,List.getElem?_drop,← yy0]
    rw[yy0 (l:=(vs.drop (i.toNat*s.sz+off)).take n),List.getElem?_take_of_lt hc,List.getElem?_drop,← yy0,Nat.add_assoc]
    exact this
  have hrun:=zb8 (w:=w) ht hn ⟨g,i.toNat*s.sz+off,none⟩ ((vs.drop (i.toNat*s.sz+off)).take n) (by rw[hr.1];exact hl) h1 (fun c u hc=>by
   have hcn:c < n:=by have:=(List.getElem?_eq_some_iff.1 hc).1;simp at this;omega
   rw[z7,cell_of_row w g (i.toNat*s.sz+off+c) cur F (0,0) hg]
   rw[List.getElem?_take_of_lt hcn,List.getElem?_drop] at hc
   have hlt:=hin c hcn
   rw[← htk,List.getElem?_take_of_lt (by rw[hvl] at hlt;omega)] at hc
   simpa using hc)
  refine Does.value (v:=if t then .agg ((vs.drop (i.toNat*s.sz+off)).take n).toArray else ((vs.drop (i.toNat*s.sz+off)).take n).getD 0 undef) (w':=w) ?_ (zam h (zic hr (fun ht=>by rw[hl];exact h1 ht)))
  simp[execOp,ho,Instr.loadAt,Instr.sureAddr,hv,hrun]
theorem MInv.rewrite {j g cap:Nat} {E:TypeId} {s r:Sl} {vs':List Value} {w':World} (hb:blks.getD j .dead=.rows E s) (hnj:nu j=some (.slice (some ⟨g,0,none⟩) s.len cap)) (hlen:r.len=s.len) (hsz:r.sz=s.sz)
  (hown:w'.ownsRow 0 E s.sz (.slice (some ⟨g,0,none⟩) s.len cap) s.len vs') (hrd:∀ C',(cx G blks nu w).Le C'→∀ k c,k < r.len→c < r.sz→Rd C' (r.cell k c) (vs'.getD (k*r.sz+c) undef)) (hm:s.len≤maxLen)
  (hw:∀ k,k≠g→w'.heap[k]?=w.heap[k]?) (hsize:w'.heap.size=w.heap.size) (hos:w'.os=w.os) (ht:w'.tape=w.tape) (ho:w'.output=w.output) :
  (cx G blks nu w).Le (cx G (blks.set j (.rows E r)) nu w')∧MInv G (blks.set j (.rows E r)) nu w':=by
 have hj:j < blks.length:=by
  rcases Nat.lt_or_ge j blks.length with h1 | h1
  ·exact h1
  ·rw[yy0,List.getElem?_eq_none h1] at hb;cases hb
 have hl:(blks.getD j .dead).live=true:=by rw[hb];rfl
 refine h.step (fun i=>i=j) (fun _ _ h=>h) (fun k hk hn=>hw k fun e=>?_) (by omega) hos ht ho (fun i hi=>getD_set_ne (fun e=>hi e.symm)) (fun _ _=>rfl)
  (fun hle i hi=>?_) (fun i v k hi _ hv hk=>?_) (fun i i' v v' b hne hi hi'=>(hne (hi.trans hi'.symm)).elim)
 ·exact hn j _ rfl hl hnj (hasB_sl.2 e.symm)
 ·subst hi
  rw[zp hj]
  exact ⟨_,vs',hnj,by rw[hsz,hlen];exact hown,hrd _ hle,by omega⟩
 ·have:=h.low j v k hl (hi ▸ hv) hk
  exact ⟨by omega,.inr ⟨j,v,rfl,hl,hi ▸ hv,hk⟩⟩
theorem zvr {o:Oper} {T F:TypeId} {x y:Operand} {e:Operand→Value} {j off g m cap:Nat} {i:Int} {s r:Sl} {c:AV} {row':List AV} {n:Nat} (ho:o.op=.store T x y)
  (hv:e x=.pointer (some ⟨g,i.toNat*s.sz+off,none⟩)) (hnj:nu j=some (.slice (some ⟨g,0,none⟩) m cap)) (hi:0≤i∧i < (m:Int)) (hy:Rd (cx G blks nu w) c (e y)) (hb:blks.getD j .dead=.rows F s) (hn:zi P (sizeOf T)=some n)
  (hc:(zag c).all (one fun j=>blks.getD j .dead)=true) (hl:(zag c).length=n) (hfit:off+n≤s.sz)
  (hnew0:∀ us rv,Rds (cx G blks nu w) (zag c) us→rv.length=s.sz→Rds (cx G blks nu w) (s.row i.toNat) rv→Rds (cx G blks nu w) row' (rv.take off++us++rv.drop (off+n)))
  (hp:s.put i.toNat row'=some r) :
  Does P o e w (zf1 G blks nu w ⟨[],.any,[(j,.rows F r)]⟩):=by
 obtain ⟨k1,k2⟩:=zwc h hy hc
 have hk:=h.ok j
 rw[hb] at hk
 obtain ⟨v,vs,e1,e2,e3,e4⟩:=hk
 ·have:v=.slice (some ⟨g,0,none⟩) m cap:=by have:=e1.symm.trans hnj;simpa using this
  subst this
  obtain ⟨rfl,hvl,cur,hg,hcs,htk,hcap1,hcap2,hcap3⟩:=zx5 (C:=cx G blks nu w) e2
  have hik:i.toNat < s.len:=by omega
  obtain ⟨p1,p2,p3,p4,p5⟩:=zakx hp hik
  have hlen:(e y).cells.toList.length=n:=by rw[k1.1];exact hl
  have hA:i.toNat*s.sz+off+n≤vs.length:=by
   rw[hvl]
   calc i.toNat*s.sz+off+n≤i.toNat*s.sz+s.sz:=by omega
    _=(i.toNat+1)*s.sz:=by rw[Nat.add_mul,Nat.one_mul]
    _≤s.len*s.sz:=Nat.mul_le_mul_right _ hik
  have hAc:i.toNat*s.sz+off+n≤cur.size:=by omega
  have hst:=run_storeCells_at P g (i.toNat*s.sz+off) F (e y).cells.toList 0 cur w hg (by simp only[Nat.add_zero];rw[hlen];exact hAc) k2
  simp only[Nat.add_zero,hlen] at hst
  generalize hus:(e y).cells.toList=us at *
  generalize hAd:i.toNat*s.sz+off=A at *
  have hAus:A+us.length≤vs.length:=by omega
  have hcl:cur.toList.length=cur.size:=Array.length_toList
  have hAcu:A+us.length≤cur.toList.length:=by rw[hcl];omega
  generalize hcur':(cur.toList.take A++us++cur.toList.drop (A+n))=cur' at hst
  rw[← hlen] at hcur'
  have hcurlen:cur'.length=cur.size:=by rw[← hcur',zho hAcu,hcl]
  generalize hvs':(vs.take A++us++vs.drop (A+us.length))=vs'
  have hvlen:vs'.length=vs.length:=by rw[← hvs',zho hAus]
  have htk':cur'.take (s.len*s.sz)=vs':=by
   rw[← hcur',← hvs',← htk]
   exact zwt (by rw[← hvl];exact hAus) (by rw[hcl];exact hcs)
  let w':=w.setRow g cur'.toArray
  have hg':w'.heap[g]?=some (.cells cur'.toArray F (0,0)):=setRow_heap w g _ _ F _ hg
  have hown':w'.ownsRow 0 F s.sz (.slice (some ⟨g,0,none⟩) s.len cap) s.len vs':=by
   refine ⟨by rw[hvlen,hvl],.inr ⟨g,cap,cur'.toArray,rfl,Nat.zero_le _,hg',hcap1,hcap2,?_,?_⟩⟩
   ·simp only[List.size_toArray];rw[hcurlen];exact hcap3
   ·simpa using htk'
  have hread:∀ C',(cx G blks nu w).Le C'→∀ k c,k < r.len→c < r.sz→Rd C' (r.cell k c) (vs'.getD (k*r.sz+c) undef):=by
   intro C' hle k c2 hk hc2
   rw[p1] at hk
   rw[p2] at hc2 ⊢
   have hkc:k*s.sz+c2 < vs.length:=by
    rw[hvl]
    calc k*s.sz+c2 < k*s.sz+s.sz:=by omega
     _=(k+1)*s.sz:=by rw[Nat.add_mul,Nat.one_mul]
     _≤s.len*s.sz:=Nat.mul_le_mul_right _ hk
   by_cases hki:k=i.toNat
   ·subst hki
    have hB:i.toNat*s.sz+s.sz≤vs.length:=by
     rw[hvl]
     calc i.toNat*s.sz+s.sz=(i.toNat+1)*s.sz:=by rw[Nat.add_mul,Nat.one_mul]
      _≤s.len*s.sz:=Nat.mul_le_mul_right _ hik
    have hrow:Rds (cx G blks nu w) (s.row i.toNat) ((vs.drop (i.toNat*s.sz)).take s.sz):=by
     refine ⟨by rw[Sl.row_length,List.length_take,List.length_drop];omega,fun c hc=>?_⟩
     rw[Sl.row_length] at hc
     have:=e3 i.toNat c hik hc
     rw[yy0 (l:=(vs.drop (i.toNat*s.sz)).take s.sz),List.getElem?_take_of_lt hc,List.getElem?_drop,← yy0]
     exact this
    have hrl:((vs.drop (i.toNat*s.sz)).take s.sz).length=s.sz:=by rw[hrow.1,Sl.row_length]
    have hnew:=hnew0 _ _ k1 hrl hrow
    have h5:=(p5 _ _ hnew).2 c2 (by rw[Sl.row_length,p2];exact hc2)
    have e5:(((vs.drop (i.toNat*s.sz)).take s.sz).take off++us++((vs.drop (i.toNat*s.sz)).take s.sz).drop (off+n)).getD c2 undef=vs'.getD (i.toNat*s.sz+c2) undef:=by
     rw[← hvs',← hlen,yy0,yy0,zk1? (by rw[hrl];omega),zk1? hAus,List.getElem?_take_of_lt hc2,List.getElem?_drop]
     congr 1
     by_cases h1:c2 < off
     ·have q1:i.toNat*s.sz+c2 < A:=by omega
      rw[if_pos h1,if_pos q1]
     ·have q1:¬ i.toNat*s.sz+c2 < A:=by omega
      rw[if_neg h1,if_neg q1]
      by_cases h2:c2 < off+us.length
      ·have q2:i.toNat*s.sz+c2 < A+us.length:=by omega
       rw[if_pos h2,if_pos q2]
       congr 1;omega
      ·have q2:¬ i.toNat*s.sz+c2 < A+us.length:=by omega
       rw[if_neg h2,if_neg q2]
    rw[e5] at h5
    exact Rd.mono hle h5
   ·rw[p4 k c2 hki]
    have h5:=e3 k c2 hk hc2
    have e5:vs.getD (k*s.sz+c2) undef=vs'.getD (k*s.sz+c2) undef:=by
     rw[← hvs',yy0,yy0,zk1? hAus]
     congr 1
     rcases Nat.lt_or_ge k i.toNat with hlt | hge
     ·have:k*s.sz+c2 < i.toNat*s.sz:=by
       calc k*s.sz+c2 < k*s.sz+s.sz:=by omega
        _=(k+1)*s.sz:=by rw[Nat.add_mul,Nat.one_mul]
        _≤i.toNat*s.sz:=Nat.mul_le_mul_right _ hlt
      have q1:k*s.sz+c2 < A:=by omega
      rw[if_pos q1]
     ·have:i.toNat*s.sz+s.sz≤k*s.sz:=by
       calc i.toNat*s.sz+s.sz=(i.toNat+1)*s.sz:=by rw[Nat.add_mul,Nat.one_mul]
        _≤k*s.sz:=Nat.mul_le_mul_right _ (by omega)
      have q1:¬ k*s.sz+c2 < A:=by omega
      have q2:¬ k*s.sz+c2 < A+us.length:=by omega
      rw[if_neg q1,if_neg q2]
    rw[e5] at h5
    exact h5.mono hle
  obtain ⟨m1,m2⟩:=MInv.rewrite h (w':=w') hb hnj p1 p2 hown' hread e4 (fun k hk=>setRow_other w g k _ hk) (by simp[w',World.setRow]) rfl rfl rfl
  refine Does.skip (w':=w') ?_ ⟨nu,by simpa[upd] using m1,by simpa[upd] using m2,.any⟩
  have hszn:((e y).cells.size≠n)=False:=by rw[← hlen,← hus];simp
  simp only[execOp,ho,Instr.storeAt,Instr.sureAddr,hv,Sem.run_bind,Sem.run_pure',Sem.run_pure,Result.andThen_ok,storeVar,zj hn w,hszn,if_false,hus,hst,Sem.run_ite]
  rfl
theorem z2a {o:Oper} {T F:TypeId} {x y:Operand} {e:Operand→Value} {j sz off:Nat} {i:Int} {s r:Sl} {c:AV} {n:Nat} (ho:o.op=.store T x y)
  (hx:Rd (cx G blks nu w) (.rptr j sz off i) (e x)) (hy:Rd (cx G blks nu w) c (e y)) (hb:blks.getD j .dead=.rows F s) (hsz:sz=s.sz) (hn:zi P (sizeOf T)=some n)
  (hc:(zag c).all (one fun j=>blks.getD j .dead)=true) (hl:(zag c).length=n) (hfit:off+n≤s.sz)
  (hp:s.put i.toNat ((s.row i.toNat).take off++zag c++(s.row i.toNat).drop (off+n))=some r) :
  Does P o e w (zf1 G blks nu w ⟨[],.any,[(j,.rows F r)]⟩):=by
 subst hsz
 generalize hv:e x=u at hx
 cases hx with
 | @rptr _ _ _ g m cap _ hnj hi=>exact zvr h ho hv hnj hi hy hb hn hc hl hfit (fun us rv k1 _ hrow=>((hrow.take off).append k1).append (hrow.drop _)) hp
theorem z2b {o:Oper} {T F:TypeId} {x y:Operand} {e:Operand→Value} {j sz off:Nat} {i:Int} {ix:List (Nat×Nat×Int)} {s r:Sl} {c:AV} {row':List AV} {n:Nat} (ho:o.op=.store T x y)
  (hx:Rd (cx G blks nu w) (.rpix j sz off i ix) (e x)) (hy:Rd (cx G blks nu w) c (e y)) (hb:blks.getD j .dead=.rows F s) (hsz:sz=s.sz) (hn:zi P (sizeOf T)=some n)
  (hc:(zag c).all (one fun j=>blks.getD j .dead)=true) (hl:(zag c).length=n) (h0:0 < n) (hfit:(z1x (s.row i.toNat) ix off n).isSome=true)
  (hq:z6h ix off (zag c) (s.row i.toNat)=some row') (hp:s.put i.toNat row'=some r) :
  Does P o e w (zf1 G blks nu w ⟨[],.any,[(j,.rows F r)]⟩):=by
 subst hsz
 generalize hv:e x=u at hx
 cases hx with
 | @rpix _ _ _ g m cap _ _ hnj hi hbx =>
  obtain ⟨xs,hxs⟩:=Option.isSome_iff_exists.1 hfit
  have hk:=h.ok j
  rw[hb] at hk
  obtain ⟨v,vs,e1,e2,e3,e4⟩:=hk
  have:v=.slice (some ⟨g,0,none⟩) m cap:=by have:=e1.symm.trans hnj;simpa using this
  subst this
  obtain ⟨rfl,hvl,_⟩:=zx5 (C:=cx G blks nu w) e2
  have hik:i.toNat < s.len:=by omega
  have hB:i.toNat*s.sz+s.sz≤vs.length:=by
   rw[hvl]
   calc i.toNat*s.sz+s.sz=(i.toNat+1)*s.sz:=by rw[Nat.add_mul,Nat.one_mul]
    _≤s.len*s.sz:=Nat.mul_le_mul_right _ hik
  have hrow:Rds (cx G blks nu w) (s.row i.toNat) ((vs.drop (i.toNat*s.sz)).take s.sz):=by
   refine ⟨by rw[Sl.row_length,List.length_take,List.length_drop];omega,fun c hc=>?_⟩
   rw[Sl.row_length] at hc
   have:=e3 i.toNat c hik hc
   rw[yy0 (l:=(vs.drop (i.toNat*s.sz)).take s.sz),List.getElem?_take_of_lt hc,List.getElem?_drop,← yy0]
   exact this
  have hrl:((vs.drop (i.toNat*s.sz)).take s.sz).length=s.sz:=by rw[hrow.1,Sl.row_length]
  have h3:=(ztj hrow hbx hxs).2.2 (n - 1) (by omega)
  have hfits:off+ixN ix+n≤s.sz:=by omega
  refine zvr h ho (off:=off+ixN ix) (by rw[hv,Nat.add_assoc]) hnj hi hy hb hn hc hl hfits (fun us rv k1 hrv hrow'=>?_) hp
  have:=z6i hbx hq k1 hrow' (by rw[hl];omega)
  rw[hl] at this
  exact this
theorem z4c {o:Oper} {T F:TypeId} {x:Operand} {e:Operand→Value} {j sz off:Nat} {i:Int} {ix:List (Nat×Nat×Int)} {s:Sl} {xs:List AV} {t:Bool} {n:Nat} (ho:o.op=.load T x)
  (hx:Rd (cx G blks nu w) (.rpix j sz off i ix) (e x)) (hb:blks.getD j .dead=.rows F s) (hsz:sz=s.sz) (ht:zi P (isAgg T)=some t) (hn:zi P (sizeOf T)=some n)
  (h1:t=false→n=1) (hxs:z1x (s.row i.toNat) ix off n=some xs):Does P o e w (zf1 G blks nu w ⟨[],zm8 t xs,[]⟩):=by
 subst hsz
 have hk:=h.ok j
 rw[hb] at hk
 obtain ⟨v,vs,e1,e2,e3,e4⟩:=hk
 generalize hv:e x=u at hx
 cases hx with
 | @rpix _ _ _ g m cap _ _ hnj hi hbx =>
  have:v=.slice (some ⟨g,0,none⟩) m cap:=by have:=e1.symm.trans hnj;simpa using this
  subst this
  obtain ⟨rfl,hvl,cur,hg,hcs,htk,_⟩:=zx5 (C:=cx G blks nu w) e2
  have hik:i.toNat < s.len:=by omega
  have hB:i.toNat*s.sz+s.sz≤vs.length:=by
   rw[hvl]
   calc i.toNat*s.sz+s.sz=(i.toNat+1)*s.sz:=by rw[Nat.add_mul,Nat.one_mul]
    _≤s.len*s.sz:=Nat.mul_le_mul_right _ hik
  have hrow:Rds (cx G blks nu w) (s.row i.toNat) ((vs.drop (i.toNat*s.sz)).take s.sz):=by
   refine ⟨by rw[Sl.row_length,List.length_take,List.length_drop];omega,fun c hc=>?_⟩
   rw[Sl.row_length] at hc
   have:=e3 i.toNat c hik hc
   rw[yy0 (l:=(vs.drop (i.toNat*s.sz)).take s.sz),List.getElem?_take_of_lt hc,List.getElem?_drop,← yy0]
   exact this
  have hrl:((vs.drop (i.toNat*s.sz)).take s.sz).length=s.sz:=by rw[hrow.1,Sl.row_length]
  obtain ⟨p1,p2,p3⟩:=ztj hrow hbx hxs
  have hrun:=zb8 (w:=w) ht hn ⟨g,i.toNat*s.sz+off+ixN ix,none⟩ ((((vs.drop (i.toNat*s.sz)).take s.sz).drop (off+ixN ix)).take n) (by rw[p2.1];exact p1) h1 (fun c u hc=>by
   have hcn:c < n:=by have:=(List.getElem?_eq_some_iff.1 hc).1;simp at this;omega
   have hlt:=p3 c hcn
   rw[hrl] at hlt
   rw[z7,cell_of_row w g (i.toNat*s.sz+off+ixN ix+c) cur F (0,0) hg]
   rw[List.getElem?_take_of_lt hcn,List.getElem?_drop,List.getElem?_take_of_lt hlt,List.getElem?_drop,← htk,List.getElem?_take_of_lt (by rw[hvl] at hB;omega)] at hc
   rw[show i.toNat*s.sz+off+ixN ix+c=i.toNat*s.sz+(off+ixN ix+c) by omega]
   simpa using hc)
  refine Does.value (v:=if t then .agg ((((vs.drop (i.toNat*s.sz)).take s.sz).drop (off+ixN ix)).take n).toArray else ((((vs.drop (i.toNat*s.sz)).take s.sz).drop (off+ixN ix)).take n).getD 0 undef) (w':=w) ?_ (zam h (zic p2 (fun ht=>by rw[p1];exact h1 ht)))
  simp[execOp,ho,Instr.loadAt,Instr.sureAddr,hv,hrun]
theorem z4d {o:Oper} {T E:TypeId} {x y:Operand} {e:Operand→Value} {j sz off n len:Nat} {i0:Int} {k:IntKind} {i:Int} (ho:o.op=.indexAddr T x y)
  (hx:Rd (cx G blks nu w) (.rptr j sz off i0) (e x)) (hy:Rd (cx G blks nu w) (.val (.int k i)) (e y)) (hT:P.underlying T=some (.array len E)) (hn:zi P (sizeOf E)=some n)
  (hi:0≤i∧i < len):Does P o e w (zf1 G blks nu w ⟨[0≤i∧i < len],.rpix j sz off i0 [(len,n,i)],[]⟩):=by
 generalize hv:e x=v at hx
 generalize hw:e y=b at hy
 cases hy
 cases hx with
 | @rptr _ _ _ g m cap _ hnj hi0 =>
  refine Does.value (v:=.pointer (some ((⟨g,i0.toNat*sz+off,none⟩:Addr).add (i.toNat*n)))) (w':=w) ?_ ⟨nu,.refl _,h,?_⟩
  ·simp[execOp,ho,hv,hw,Instr.indexAt,asIntOf,run_underlying hT,hi,Instr.sureAddr,zj hn w]
  ·rw[z7]
   have:=Rd.rpix (C:=cx G blks nu w) (sz:=sz) (off:=off) (ix:=[(len,n,i)]) hnj hi0 ⟨hi,trivial⟩
   simp only[ixN,Nat.add_zero] at this
   exact this
theorem z4e {o:Oper} {T E:TypeId} {x y:Operand} {e:Operand→Value} {j sz off n len:Nat} {i0:Int} {k:IntKind} {i:Int} (ho:o.op=.indexAddr T x y)
  (hx:Rd (cx G blks nu w) (.rptr j sz off i0) (e x)) (hy:Rd (cx G blks nu w) (.val (.int k i)) (e y)) (hT:P.underlying T=some (.array len E)) (hn:zi P (sizeOf E)=some n)
  (hi:0≤i∧i < len):Does P o e w (zf1 G blks nu w ⟨[],.rptr j sz (off+i.toNat*n) i0,[]⟩):=by
 generalize hv:e x=v at hx
 generalize hw:e y=b at hy
 cases hy
 cases hx with
 | @rptr _ _ _ g m cap _ hnj hi0 =>
  refine Does.value (v:=.pointer (some ((⟨g,i0.toNat*sz+off,none⟩:Addr).add (i.toNat*n)))) (w':=w) ?_ (zam h (by rw[z7,Nat.add_assoc];exact .rptr hnj hi0))
  simp[execOp,ho,hv,hw,Instr.indexAt,asIntOf,run_underlying hT,hi,Instr.sureAddr,zj hn w]
theorem z4f {o:Oper} {T:TypeId} {x:Operand} {e:Operand→Value} {j:Nat} {E:TypeId} (ho:o.op=.makeInterface T x) (hT:P.underlying T=some (.slice E))
  (hx:Rd (cx G blks nu w) (.own j) (e x)):Does P o e w (zf1 G blks nu w ⟨[],.iface T j,[]⟩):=by
 cases hv:e x
 all_goals
  rw[hv] at hx
  cases hx with
  | own hn =>
   refine Does.value (v:=.iface T (e x)) (w':=w) ?_ (zam h (.iface (by rw[hv];exact hn)))
   simp[execOp,ho,Instr.makeInterface,run_underlying hT,hv]
theorem z63 {o:Oper} {T E F:TypeId} {x:Operand} {hi:Option Operand} {e:Operand→Value} {g:Operand→AV} {j id:Nat} {s:Sl} {r:Int} (ho:o.op=.slice T x none hi none) (hT:P.underlying T=some (.slice E))
  (hn:zi P (sizeOf E)=some s.sz) (hg:∀ x,Rd (cx G blks nu w) (g x) (e x)) (hx:g x=.own j) (hb:blks.getD j .dead=.rows F s) (hf:blks.getD id .dead=.free) (hne:j≠id)
  (hr:zzf s.len (hi.map g)=some r) (hbd:0≤r∧r≤(s.len:Int)) :
  Does P o e w (zf1 G blks nu w ⟨[0≤r∧r≤(s.len:Int)],.own id,[(j,.dead),(id,.rows F (s.cut 0 r.toNat))]⟩):=by
 have conv:∀ q:Option Operand,(q.map g=none∧q.map e=none)∨∃ a u,q.map g=some a∧q.map e=some u∧Rd (cx G blks nu w) a u:=by
  intro q
  cases q with
  | none=>exact .inl ⟨rfl,rfl⟩
  | some z=>exact .inr ⟨_,_,rfl,rfl,hg z⟩
 have h2:=z1s hr (conv hi)
 obtain ⟨c1,c2,c3⟩:=zacw s 0 r.toNat (by omega) (by omega)
 have helem:P.elem T=E:=by simp[Program.elem,hT]
 have hv:=hg x
 rw[hx] at hv
 have hat:(Instr.sliceAt T (e x) none (hi.map e) none).run P w=(Instr.slice T (e x) none (hi.map e) none).run P w:=run_sliceAt_slice w T _ _ _ _ (by rw[hT,helem])
 have hk:=h.ok j
 rw[hb] at hk
 obtain ⟨v,vs,e1,e2,e3,e4⟩:=hk
 have hvv:e x=v:=by
  generalize e x=u at hv
  cases hv with
  | own hn2=>have:=hn2.symm.trans e1;simpa using this
 rw[hvv] at hat
 have hlv:(blks.getD j .dead).live=true:=by rw[hb];rfl
 have hjl:j < blks.length:=by
  rcases Nat.lt_or_ge j blks.length with h1 | h1
  ·exact h1
  ·rw[yy0,List.getElem?_eq_none h1] at hb;cases hb
 have hread:∀ C',(cx G blks nu w).Le C'→∀ k c,k < (s.cut 0 r.toNat).len→c < (s.cut 0 r.toNat).sz→Rd C' ((s.cut 0 r.toNat).cell k c) ((vs.take (r.toNat*s.sz)).getD (k*(s.cut 0 r.toNat).sz+c) undef):=by
  intro C' hle k c hk hc
  rw[c1,Nat.sub_zero] at hk
  rw[c2] at hc ⊢
  rw[c3 k c (by omega),Nat.zero_add]
  have hlt:k*s.sz+c < r.toNat*s.sz:=by
   calc k*s.sz+c < k*s.sz+s.sz:=by omega
    _=(k+1)*s.sz:=by rw[Nat.add_mul,Nat.one_mul]
    _≤r.toNat*s.sz:=Nat.mul_le_mul_right _ hk
  rw[yy0,List.getElem?_take_of_lt hlt,← yy0]
  exact (e3 k c (by omega) hc).mono hle
 have finish:∀ v':Value,zcu v'=zcu v→w.ownsRow 0 F (s.cut 0 r.toNat).sz v' (s.cut 0 r.toNat).len (vs.take (r.toNat*s.sz))→(execOp e o).run P w=.ok (.value v') w →
   Does P o e w (zf1 G blks nu w ⟨[0≤r∧r≤(s.len:Int)],.own id,[(j,.dead),(id,.rows F (s.cut 0 r.toNat))]⟩):=by
  intro v' hb' hown' hrun
  obtain ⟨nu',k1,k2,k3⟩:=h.putRow (blks1:=blks.set j .dead) (w':=w) (old:=some j) (row:=zcu v) hf (by simp)
   (fun i hi1 hi2=>getD_set_ne (fun q=>hi2 (by rw[q]))) (fun i hi1=>by cases hi1;exact ⟨hne,zp hjl,hlv⟩) hown' (by rw[c1];omega) hread
   ⟨rfl,rfl,rfl,Nat.le_refl _,fun _ _ _=>rfl⟩ (fun b hb1=>⟨j,v,rfl,e1,hb1⟩) (.inl hb')
  exact Does.value (v:=v') (w':=w) hrun ⟨nu',by simpa[upd] using k1,by simpa[upd] using k2,by simpa[upd] using Rd.own (C:=cx G ((blks.set j .dead).set id (.rows F (s.cut 0 r.toNat))) nu' w) k3⟩
 obtain ⟨q1,q2⟩:=e2
 rcases q2 with ⟨rfl,h0⟩ | ⟨gg,cap,cur,rfl,q3,q4,q5,q6,q7,q8⟩
 ·have hrun:=znz (P:=P) (isSlice:=true) (len:=0) (cap:=0) (lo:=none) (hi:=hi.map e) (l:=0) (r:=r) (.inl ⟨rfl,rfl⟩) (by rw[h0] at h2;exact h2) (Int.le_refl _) hbd.1 (by omega) (Nat.le_refl _) w
  have e0:r.toNat=0:=by omega
  have el:(s.cut 0 r.toNat).len=0:=by rw[c1];omega
  refine finish (.slice none 0 0) rfl ⟨by rw[el,e0,Nat.zero_mul,Nat.zero_mul];rfl,.inl ⟨rfl,el⟩⟩ ?_
  simp only[e0] at hrun
  simp[execOp,ho,hvv,hat,Instr.slice,run_underlying hT,hrun,zj hn w]
 ·have hrun:=znz (P:=P) (isSlice:=true) (len:=s.len) (cap:=cap) (lo:=none) (hi:=hi.map e) (l:=0) (r:=r) (.inl ⟨rfl,rfl⟩) h2 (Int.le_refl _) hbd.1 hbd.2 q5 w
  have ha:(if cap=0 then (⟨gg,0,none⟩:Addr) else (⟨gg,0,none⟩:Addr).add (0*s.sz))=⟨gg,0,none⟩:=by
   split
   ·rfl
   ·rw[Nat.zero_mul,z7]
  refine finish (.slice (some ⟨gg,0,none⟩) r.toNat cap) rfl ⟨?_,.inr ⟨gg,cap,cur,by rw[c1,Nat.sub_zero],q3,q4,by rw[c1];omega,q6,by rw[c2];exact q7,?_⟩⟩ ?_
  ·have:r.toNat*s.sz≤s.len*s.sz:=Nat.mul_le_mul_right _ (by omega)
   rw[List.length_take,c1,c2,Nat.sub_zero]
   omega
  ·rw[c1,c2,Nat.sub_zero,← q8,List.take_take,Nat.min_eq_left (Nat.mul_le_mul_right _ (by omega))]
  ·simp only[execOp,ho,hvv,hat,Option.map_none,Instr.slice,Sem.run_bind,run_underlying hT,Result.andThen_ok,hrun,zj hn w,Sem.run_pure,Int.toNat_zero,Nat.sub_zero]
   congr 2
   split<;>simp_all
end sound
def getM {α:Type} (d:α):List (Int×α)→Int→α
 | [],_=>d
 | p::l,n=>if n=p.1 then p.2 else getM d l n
def hasM {α:Type}:List (Int×α)→Int→Bool
 | [],_=>false
 | p::l,n=>if n=p.1 then true else hasM l n
def putM {α:Type} (n:Int) (x:α):List (Int×α)→List (Int×α)
 | []=>[(n,x)]
 | p::l=>if n=p.1 then (n,x)::l else p::putM n x l
def zwr (n:Int):List Int→Option Nat
 | []=>none
 | a::l=>if n=a then some 0 else (zwr n l).map (·+1)
theorem z8u {n:Int}:∀ {l:List Int},zwr n l=none→n∉l
 | [],_=>by simp
 | a::l,h=>by
  by_cases c:n=a
  ·simp[zwr,c] at h
  ·simp only[zwr,if_neg c,Option.map_eq_none_iff] at h
   simp only[List.mem_cons,not_or]
   exact ⟨c,z8u h⟩
theorem z8v {α:Type} (d:α) (n:Int):∀ l:List (Int×α),(∀ j,zwr n (l.map (·.1))=some j→l[j]?=some (n,getM d l n)∧hasM l n=true)∧(zwr n (l.map (·.1))=none→getM d l n=d∧hasM l n=false)
 | []=>⟨fun j h=>by simp[zwr] at h,fun _=>⟨rfl,rfl⟩⟩
 | p::l=>by
  obtain ⟨h1,h2⟩:=z8v d n l
  by_cases e:n=p.1
  ·refine ⟨fun j h=>?_,fun h=>?_⟩
   ·simp only[List.map_cons,zwr,if_pos e,yy1] at h
    subst h
    simp only[getM,hasM,if_pos e,List.getElem?_cons_zero]
    exact ⟨by rw[e],trivial⟩
   ·simp only[List.map_cons,zwr,if_pos e,reduceCtorEq] at h
  ·refine ⟨fun j h=>?_,fun h=>?_⟩
   ·simp only[List.map_cons,zwr,if_neg e,Option.map_eq_some_iff] at h
    obtain ⟨k,hk,rfl⟩:=h
    simp only[getM,hasM,if_neg e,List.getElem?_cons_succ]
    exact h1 k hk
   ·simp only[List.map_cons,zwr,if_neg e,Option.map_eq_none_iff] at h
    simp only[getM,hasM,if_neg e]
    exact h2 h
theorem z8w {α:Type} (n:Int) (x:α):∀ l:List (Int×α),(∀ j,zwr n (l.map (·.1))=some j→putM n x l=l.set j (n,x))∧(zwr n (l.map (·.1))=none→putM n x l=l++[(n,x)])
 | []=>⟨fun j h=>by simp[zwr] at h,fun _=>rfl⟩
 | p::l=>by
  obtain ⟨h1,h2⟩:=z8w n x l
  by_cases e:n=p.1
  ·refine ⟨fun j h=>?_,fun h=>?_⟩
   ·simp only[List.map_cons,zwr,if_pos e,yy1] at h
    subst h
    simp only[putM,if_pos e,List.set_cons_zero]
   ·simp only[List.map_cons,zwr,if_pos e,reduceCtorEq] at h
  ·refine ⟨fun j h=>?_,fun h=>?_⟩
   ·simp only[List.map_cons,zwr,if_neg e,Option.map_eq_some_iff] at h
    obtain ⟨k,hk,rfl⟩:=h
    simp only[putM,if_neg e,List.set_cons_succ,h1 k hk]
   ·simp only[List.map_cons,zwr,if_neg e,Option.map_eq_none_iff] at h
    simp only[putM,if_neg e,h2 h,List.cons_append]
namespace Mp
def val:Mp→Int→AV
 | .pows l,n=>.sl (.powers (getM [] l n))
 | .nums l,n=>.agg (n6A (getM default l n))
 | .waits l,n=>.agg (getM default l n).cells
 | .flags l,n=>.b (getM false l n)
def has:Mp→Int→Bool
 | .pows l,n=>hasM l n
 | .nums l,n=>hasM l n
 | .waits l,n=>hasM l n
 | .flags l,n=>hasM l n
def zero:Mp→AV
 | .pows _=>.sl (.powers [])
 | .nums _=>.agg (n6A default)
 | .waits _=>.agg (default:Wait).cells
 | .flags _=>.b false
def zok:Mp→Value→Bool
 | .pows _,.slice none 0 0=>true
 | .nums _,.agg ⟨[.int .i64 (.ofNat 0),.int .i64 (.ofNat 0),.int .i64 (.ofNat 0),.int .i64 (.ofNat 0),.int .i64 (.ofNat 0),.int .i64 (.ofNat 0)]⟩=>true
 | .waits _,.agg ⟨[.int .i64 (.ofNat 0),.int .i64 (.ofNat 0),.int .i64 (.ofNat 0),.int .i64 (.ofNat 0),.int .i64 (.ofNat 0),.int .i64 (.ofNat 0),.int .i64 (.ofNat 0),.int .i64 (.ofNat 0)]⟩=>true
 | .flags _,.bool false=>true
 | _,_=>false
def put:Mp→Int→AV→Option Mp
 | .pows l,n,.sl (.powers v)=>some (.pows (putM n v l))
 | .pows l,n,.val (.slice none 0 0)=>some (.pows (putM n [] l))
 | .nums l,n,.agg [.val (.int .i64 a),.val (.int .i64 b),.val (.int .i64 c),.val (.int .i64 d),.val (.int .i64 e),.val (.int .i64 f)]=>some (.nums (putM n ⟨a,b,c,d,e,f⟩ l))
 | .waits l,n,.agg [.val (.int .i64 a),.val (.int .i64 b),.val (.int .i64 c),.val (.int .i64 d),.val (.int .i64 e),.val (.int .i64 f),.val (.int .i64 g),.val (.int .i64 h)]=>some (.waits (putM n ⟨a,b,c,d,e,f,g,h⟩ l))
 | .flags l,n,.val (.bool b)=>some (.flags (putM n b l))
 | _,_,_=>none
end Mp
theorem zae3 {C:Cx} {m:Mp} {z:Value} (h:m.zok z=true):Rd C m.zero z:=by
 unfold Mp.zok at h
 split at h
 ·exact .slnil rfl
 ·exact (Rd.agg (C:=C) (cs:=n6A default) (vs:=[.int .i64 0,.int .i64 0,.int .i64 0,.int .i64 0,.int .i64 0,.int .i64 0]) rfl (zpg C [.int .i64 0,.int .i64 0,.int .i64 0,.int .i64 0,.int .i64 0,.int .i64 0]).2)
 ·exact (Rd.agg (C:=C) (cs:=(default:Wait).cells) (vs:=[.int .i64 0,.int .i64 0,.int .i64 0,.int .i64 0,.int .i64 0,.int .i64 0,.int .i64 0,.int .i64 0]) rfl (zpg C [.int .i64 0,.int .i64 0,.int .i64 0,.int .i64 0,.int .i64 0,.int .i64 0,.int .i64 0,.int .i64 0]).2)
 ·exact .val
 ·cases h
theorem zadh {α:Type} (f:α→AV) (l:List (Int×α)):(l.map fun p=>((p.1,f p.2):Int×AV)).map (·.1)=l.map (·.1):=by
 rw[List.map_map];rfl
theorem zabf (m:Mp) (n:Int):(∀ j,zwr n (m.ents.map (·.1))=some j→m.ents[j]?=some (n,m.val n)∧m.has n=true)∧(zwr n (m.ents.map (·.1))=none→m.val n=m.zero∧m.has n=false):=by
 have key:∀ {α:Type} (f:α→AV) (d:α) (l:List (Int×α)),(∀ j,zwr n ((l.map fun p=>((p.1,f p.2):Int×AV)).map (·.1))=some j→(l.map fun p=>((p.1,f p.2):Int×AV))[j]?=some (n,f (getM d l n))∧hasM l n=true) ∧
   (zwr n ((l.map fun p=>((p.1,f p.2):Int×AV)).map (·.1))=none→f (getM d l n)=f d∧hasM l n=false):=by
  intro α f d l
  rw[zadh]
  obtain ⟨h1,h2⟩:=z8v d n l
  refine ⟨fun j hj=>?_,fun hj=>?_⟩
  ·obtain ⟨k1,k2⟩:=h1 j hj
   refine ⟨?_,k2⟩
   rw[List.getElem?_map,k1];rfl
  ·obtain ⟨k1,k2⟩:=h2 hj
   exact ⟨by rw[k1],k2⟩
 cases m with
 | pows l=>exact key (fun v=>.sl (.powers v)) [] l
 | nums l=>exact key (fun v=>.agg (n6A v)) default l
 | waits l=>exact key (fun v:Wait=>.agg v.cells) default l
 | flags l=>exact key (fun v=>.b v) false l
theorem zabg {m m':Mp} {n:Int} {c:AV} (h:m.put n c=some m') :
  ∃ c',(∀ C v,Rd C c v→Rd C c' v)∧(∀ j,zwr n (m.ents.map (·.1))=some j→m'.ents=m.ents.set j (n,c'))∧(zwr n (m.ents.map (·.1))=none→m'.ents=m.ents++[(n,c')]):=by
 have key:∀ {α:Type} (f:α→AV) (x:α) (l:List (Int×α)),(∀ j,zwr n ((l.map fun p=>((p.1,f p.2):Int×AV)).map (·.1))=some j→((putM n x l).map fun p=>((p.1,f p.2):Int×AV))=(l.map fun p=>((p.1,f p.2):Int×AV)).set j (n,f x)) ∧
   (zwr n ((l.map fun p=>((p.1,f p.2):Int×AV)).map (·.1))=none→((putM n x l).map fun p=>((p.1,f p.2):Int×AV))=(l.map fun p=>((p.1,f p.2):Int×AV))++[(n,f x)]):=by
  intro α f x l
  rw[zadh]
  obtain ⟨h1,h2⟩:=z8w n x l
  refine ⟨fun j hj=>?_,fun hj=>?_⟩
  ·rw[h1 j hj,List.map_set]
  ·rw[h2 hj,List.map_append];rfl
 unfold Mp.put at h
 split at h
 ·rename_i l v
  simp only[yy1] at h;subst h
  exact ⟨.sl (.powers v),fun _ _ h=>h,key (fun v=>.sl (.powers v)) v l⟩
 ·rename_i l
  simp only[yy1] at h;subst h
  exact ⟨.sl (.powers []),fun C v h=>by cases h;exact .slnil rfl,key (fun v=>.sl (.powers v)) [] l⟩
 ·rename_i l a b c d e f
  simp only[yy1] at h;subst h
  exact ⟨.agg (n6A (⟨a,b,c,d,e,f⟩:A6 Int)),fun _ _ h=>h,key (fun v=>.agg (n6A v)) (⟨a,b,c,d,e,f⟩:A6 Int) l⟩
 ·rename_i l a b c d e f g h'
  simp only[yy1] at h;subst h
  exact ⟨.agg (⟨a,b,c,d,e,f,g,h'⟩:Wait).cells,fun _ _ h=>h,key (fun v:Wait=>.agg v.cells) ⟨a,b,c,d,e,f,g,h'⟩ l⟩
 ·rename_i l b
  simp only[yy1] at h;subst h
  exact ⟨.b b,fun _ _ h=>h,key (fun v=>.b v) b l⟩
 ·cases h
theorem z16 (q:IntKind) (n:Int):∀ (l:List MapEntry) (L:List Int) (i:Nat),l.map (·.key)=L.map (Value.int .i64) →
  (zwr n L=none∧Instr.findNow (.int q) (.int .i64 n) l i=some none)∨∃ j e,zwr n L=some j∧l[j]?=some e∧e.key=.int .i64 n∧Instr.findNow (.int q) (.int .i64 n) l i=some (some (i+j,e.val))
 | [],L,i,h=>by
  have:L=[]:=by simpa using h.symm
  subst this
  exact .inl ⟨rfl,rfl⟩
 | e::l,[],i,h=>by simp at h
 | e::l,a::L,i,h=>by
  simp only[List.map_cons,List.cons.injEq] at h
  obtain ⟨h1,h2⟩:=h
  by_cases c:n=a
  ·refine .inr ⟨0,e,by simp[zwr,c],rfl,by rw[h1,c],?_⟩
   simp[Instr.findNow,Instr.sameNow,h1,c]
  ·have c':(n==a)=false:=by simpa using c
   rcases z16 q n l L (i+1) h2 with ⟨k1,k2⟩ | ⟨j,e',k1,k2,k3,k4⟩
   ·refine .inl ⟨by simp[zwr,c,k1],?_⟩
    simp[Instr.findNow,Instr.sameNow,h1,c',k2]
   ·refine .inr ⟨j+1,e',by simp[zwr,c,k1],by simpa using k2,k3,?_⟩
    simp[Instr.findNow,Instr.sameNow,h1,c',k4]
    omega
theorem MapRd.keys {C:Cx} {m:Mp} {es:Array MapEntry} {clock:Nat} (h:MapRd C m es clock):es.toList.map (·.key)=(m.ents.map (·.1)).map (Value.int .i64):=by
 apply List.ext_getElem?
 intro k
 rw[List.getElem?_map,List.getElem?_map,List.getElem?_map]
 by_cases hk:k < es.size
 ·have hk2:k < m.ents.length:=by rw[← h.1];exact hk
  have e1:es[k]?=some es[k]:=Array.getElem?_eq_getElem hk
  have e2:m.ents[k]?=some m.ents[k]:=yy3 hk2
  rw[Array.getElem?_toList,e1,e2]
  simp only[Option.map_some,yy1]
  exact (h.2.1 k _ _ e1 e2).1
 ·rw[Array.getElem?_toList,Array.getElem?_eq_none (by omega),List.getElem?_eq_none (by rw[← h.1];omega)]
  rfl
section sound
variable {P:Program} {G:Gl} {blks:List Blk} {nu:Nat→Option Value} {w:World} (h:MInv G blks nu w)
include h
theorem MInv.allocMap {j:Nat} {m:Mp} (hf:blks.getD j .dead=.free) (h0:m.ents=[]) :
  ∃ nu',(cx G blks nu w).Le (cx G (blks.set j (.maps m)) nu' (w.alloc (.map #[] 0)))∧MInv G (blks.set j (.maps m)) nu' (w.alloc (.map #[] 0))∧nu' j=some (.map (some w.heap.size)):=by
 have hd:nu j=none:=by have:=h.ok j;rw[hf] at this;exact this
 have hj:j < blks.length:=by
  rcases Nat.lt_or_ge j blks.length with h1 | h1
  ·exact h1
  ·rw[yy0,List.getElem?_eq_none h1] at hf;cases hf
 refine ⟨fun i=>if i=j then some (.map (some w.heap.size)) else nu i,?_⟩
 have:=h.step (w':=w.alloc (.map #[] 0)) (blks':=blks.set j (.maps m)) (nu':=fun i=>if i=j then some (.map (some w.heap.size)) else nu i) (fun i=>i=j)
  (fun i v hi=>by
   by_cases e:i=j
   ·rw[e,hd] at hi;cases hi
   ·simp only[e,if_false];exact hi)
  (fun b hb _=>Below.heap_alloc w _ b hb) (by rw[zq7];omega) rfl rfl rfl
  (fun i hi=>getD_set_ne (fun e=>hi e.symm)) (fun i hi=>by simp[hi])
  (fun hle i hi=>by
   subst hi
   rw[zp hj]
   exact ⟨w.heap.size,#[],0,by simp[cx],(MapKept.heap_alloc w _).1,by rw[h0];rfl,fun k e p k1 _=>by simp at k1,MapKept.stamped_empty 0⟩)
  (fun i v b hi _ hv hb=>by
   simp only[hi,if_true,yy1] at hv
   subst hv
   replace hb:w.heap.size=b:=hasB_map.1 hb
   subst hb
   exact ⟨by rw[zq7];omega,.inl (Nat.le_refl _)⟩)
  (fun i i' v v' b hne hi hi'=>(hne (hi.trans hi'.symm)).elim)
 exact ⟨this.1,this.2,by simp⟩
theorem MInv.writeMap {j b:Nat} {m m':Mp} {w':World} {es':Array MapEntry} {clock':Nat} (hf:blks.getD j .dead=.maps m) (hb:nu j=some (.map (some b))) (hr:MapRd (cx G blks nu w) m' es' clock')
  (hw:∀ k,k≠b→w'.heap[k]?=w.heap[k]?) (hwb:w'.heap[b]?=some (.map es' clock')) (hsz:w'.heap.size=w.heap.size)
  (hos:w'.os=w.os) (htape:w'.tape=w.tape) (hout:w'.output=w.output) :
  (cx G blks nu w).Le (cx G (blks.set j (.maps m')) nu w')∧MInv G (blks.set j (.maps m')) nu w':=by
 have hj:j < blks.length:=by
  rcases Nat.lt_or_ge j blks.length with h1 | h1
  ·exact h1
  ·rw[yy0,List.getElem?_eq_none h1] at hf;cases hf
 have hl:(blks.getD j .dead).live=true:=by rw[hf];rfl
 refine h.step (fun i=>i=j) (fun _ _ h=>h) (fun k hk hn=>hw k fun e=>?_) (by omega) hos htape hout (fun i hi=>getD_set_ne (fun e=>hi e.symm)) (fun _ _=>rfl)
  (fun hle i hi=>?_) (fun i v k hi _ hv hk=>?_) (fun i i' v v' b hne hi hi'=>(hne (hi.trans hi'.symm)).elim)
 ·exact hn j _ rfl hl hb (hasB_map.2 e.symm)
 ·subst hi
  rw[zp hj]
  exact ⟨b,es',clock',hb,hwb,hr.mono hle⟩
 ·have:=h.low j v k hl (hi ▸ hv) hk
  exact ⟨by omega,.inr ⟨j,v,rfl,hl,hi ▸ hv,hk⟩⟩
theorem z8x {o:Oper} {T:TypeId} {e:Operand→Value} {id:Nat} {m:Mp} (ho:o.op=.makeMap T none) (hf:blks.getD id .dead=.free) (h0:m.ents=[]) :
  Does P o e w (zf1 G blks nu w ⟨[],.own id,[(id,.maps m)]⟩):=by
 obtain ⟨nu',h1,h2,h3⟩:=h.allocMap hf h0
 refine Does.value (v:=.map (some w.heap.size)) (w':=w.alloc (.map #[] 0)) ?_ ⟨nu',?_,?_,.own h3⟩
 ·simp[execOp,ho,Instr.makeMap,newObj,Result.andThen]
  rfl
 ·simpa[upd] using h1
 ·simpa[upd] using h2
theorem zabh {o:Oper} {t k E:TypeId} {x y:Operand} {ok:Bool} {e:Operand→Value} {j:Nat} {m:Mp} {n:Int} {z:Value} (ho:o.op=.lookup t x y ok)
  (ht:P.underlying t=some (.map k E)) (hk:P.underlying k=some (.int .i64)) (hz:zi P (zeroValue E)=some z) (hzok:m.zok z=true)
  (hx:Rd (cx G blks nu w) (.own j) (e x)) (hb:blks.getD j .dead=.maps m) (hy:Rd (cx G blks nu w) (.val (.int .i64 n)) (e y)) :
  Does P o e w (zf1 G blks nu w ⟨[],if ok then .tup [m.val n,.b (m.has n)] else m.val n,[]⟩):=by
 have hK:=h.ok j
 rw[hb] at hK
 obtain ⟨b,es,clock,e1,e2,e3⟩:=hK
 have e2:w.heap[b]?=some (.map es clock):=e2
 have hxv:e x=.map (some b):=by
  generalize e x=v at hx
  cases hx with
  | own hn=>exact Option.some.inj (hn.symm.trans e1)
 have hyv:e y=.int .i64 n:=by
  generalize e y=v at hy
  cases hy;rfl
 have hd:MapKept.IsKey (.int .i64) (.int .i64 n):=by simp[MapKept.IsKey]
 obtain ⟨v1,v2⟩:=zabf m n
 have fin:∀ u f,Rd (cx G blks nu w) (m.val n) u→f=m.has n→(Instr.lookup t (.map (some b)) (.int .i64 n) ok).run P w=.ok (if ok then .tuple #[u,.bool f] else u) w →
   Does P o e w (zf1 G blks nu w ⟨[],if ok then .tup [m.val n,.b (m.has n)] else m.val n,[]⟩):=by
  intro u f hu hf hrun
  refine Does.value (v:=if ok then .tuple #[u,.bool f] else u) (w':=w) ?_ (zam h ?_)
  ·simp[execOp,ho,hxv,hyv,hrun]
  ·cases ok with
   | true =>
    rw[hf]
    exact .tup (vs:=[u,.bool (m.has n)]) rfl (Rds.cons hu (.cons .val .nil)).2
   | false=>exact hu
 rcases z16 .i64 n es.toList (m.ents.map (·.1)) 0 e3.keys with ⟨k1,k2⟩ | ⟨i,en,k1,k2,k3,k4⟩
 ·obtain ⟨u1,u2⟩:=v2 k1
  refine fin z false (by rw[u1];exact zae3 hzok) u2.symm ?_
  simp[Instr.lookup,run_underlying ht,MapKept.run_getObj_map e2,MapKept.run_checkKey hk hd,MapKept.run_findKey hk k2,zj hz w,Result.andThen]
 ·obtain ⟨u1,u2⟩:=v1 i k1
  refine fin en.val true (e3.2.1 i en _ (by rw[← Array.getElem?_toList];exact k2) u1).2 u2.symm ?_
  simp[Instr.lookup,run_underlying ht,MapKept.run_getObj_map e2,MapKept.run_checkKey hk hd,MapKept.run_findKey hk k4,Result.andThen]
theorem z4a {o:Oper} {t k E:TypeId} {x y c:Operand} {e:Operand→Value} {j:Nat} {m m':Mp} {n:Int} {a:AV} (ho:o.op=.mapUpdate t x y c)
  (ht:P.underlying t=some (.map k E)) (hk:P.underlying k=some (.int .i64))
  (hx:Rd (cx G blks nu w) (.own j) (e x)) (hb:blks.getD j .dead=.maps m) (hy:Rd (cx G blks nu w) (.val (.int .i64 n)) (e y)) (hc:Rd (cx G blks nu w) a (e c)) (hp:m.put n a=some m') :
  Does P o e w (zf1 G blks nu w ⟨[],.any,[(j,.maps m')]⟩):=by
 have hK:=h.ok j
 rw[hb] at hK
 obtain ⟨b,es,clock,e1,e2,e3⟩:=hK
 have e2:w.heap[b]?=some (.map es clock):=e2
 have hxv:e x=.map (some b):=by
  generalize e x=v at hx
  cases hx with
  | own hn=>exact Option.some.inj (hn.symm.trans e1)
 have hyv:e y=.int .i64 n:=by
  generalize e y=v at hy
  cases hy;rfl
 have hd:MapKept.IsKey (.int .i64) (.int .i64 n):=by simp[MapKept.IsKey]
 obtain ⟨c',hc',p1,p2⟩:=zabg hp
 have fin:∀ es' clock',MapRd (cx G blks nu w) m' es' clock'→(Instr.mapUpdate t (.map (some b)) (.int .i64 n) (e c)).run P w=.ok () { w with heap:=w.heap.setIfInBounds b (.map es' clock') } →
   Does P o e w (zf1 G blks nu w ⟨[],.any,[(j,.maps m')]⟩):=by
  intro es' clock' hr hrun
  obtain ⟨q1,q2⟩:=MapKept.heap_set (o':=.map es' clock') e2
  obtain ⟨m1,m2⟩:=h.writeMap (w':={ w with heap:=w.heap.setIfInBounds b (.map es' clock') }) hb e1 hr q2 q1 (by simp) rfl rfl rfl
  refine Does.skip (w':={ w with heap:=w.heap.setIfInBounds b (.map es' clock') }) ?_ ⟨nu,by simpa[upd] using m1,by simpa[upd] using m2,.any⟩
  simp[execOp,ho,hxv,hyv,hrun,Result.andThen]
 rcases z16 .i64 n es.toList (m.ents.map (·.1)) 0 e3.keys with ⟨k1,k2⟩ | ⟨i,en,k1,k2,k3,k4⟩
 ·have hE:=p2 k1
  refine fin (es.push ⟨.int .i64 n,e c,clock⟩) (clock+1) ⟨by rw[hE];simp[e3.1],fun i u p h1 h2=>?_,MapKept.stamped_push e3.2.2 (fun u hu hk=>?_)⟩ ?_
  ·rw[hE] at h2
   by_cases hi:i < es.size
   ·rw[Array.getElem?_push,if_neg (by omega)] at h1
    rw[List.getElem?_append_left (by rw[← e3.1];exact hi)] at h2
    exact e3.2.1 i u p h1 h2
   ·have hi2:i=es.size:=by
     have:=(Array.getElem?_eq_some_iff.1 h1).1
     simp at this;omega
    subst hi2
    rw[Array.getElem?_push,if_pos rfl] at h1
    rw[e3.1,List.getElem?_append_right (Nat.le_refl _),Nat.sub_self] at h2
    simp only[yy1,List.getElem?_cons_zero] at h1 h2
    subst h1;subst h2
    exact ⟨rfl,hc' _ _ hc⟩
  ·have hm:Value.int .i64 n∈es.toList.map (·.key):=List.mem_map.2 ⟨u,hu,hk⟩
   rw[e3.keys] at hm
   obtain ⟨a,ha,ha2⟩:=List.mem_map.1 hm
   simp only[Value.int.injEq,true_and] at ha2
   rw[ha2] at ha
   exact z8u k1 ha
  ·simp[Instr.mapUpdate,run_underlying ht,MapKept.run_getObj_map e2,MapKept.run_checkKey hk hd,MapKept.run_findKey hk k2,MapKept.run_setObj_map _ e2,Result.andThen]
 ·have hE:=p1 i k1
  have k2':es[i]?=some en:=by rw[← Array.getElem?_toList];exact k2
  have hkt:(Instr.keyThatStays (.int .i64 n) (.int .i64 n)).run P w=.ok (.int .i64 n) w:=MapKept.run_keyThatStays hd
  refine fin (es.modify i fun u=>{ u with key:=.int .i64 n,val:=e c }) clock ⟨by rw[hE];simp[e3.1],fun r u p h1 h2=>?_,MapKept.stamped_modify e3.2.2 i _ (fun _ _=>rfl) (fun e _ he=>?_)⟩ ?_
  ·rw[hE] at h2
   rw[Array.getElem?_modify] at h1
   by_cases hr:i=r
   ·subst hr
    have hlt:i < m.ents.length:=by rw[← e3.1];exact (Array.getElem?_eq_some_iff.1 k2').1
    rw[List.getElem?_set_self hlt] at h2
    rw[if_pos rfl,k2'] at h1
    simp only[Option.map_some,yy1] at h1 h2
    subst h1;subst h2
    exact ⟨rfl,hc' _ _ hc⟩
   ·rw[List.getElem?_set_ne hr] at h2
    rw[if_neg hr] at h1
    exact e3.2.1 r u p h1 h2
  ·rw[k2'] at he
   cases he
   exact k3.symm
  ·simp[Instr.mapUpdate,run_underlying ht,MapKept.run_getObj_map e2,MapKept.run_checkKey hk hd,MapKept.run_findKey hk k4,k2',k3,hkt,MapKept.run_setObj_map _ e2,Result.andThen]
end sound
def zapc (P:Program) (t:TypeId):Option Mp :=
 match P.info? t with
 | some i =>
  if i.str = "map[int][]api.Power" then some (.pows [])
  else if i.str = "map[int][6]int" then some (.nums [])
  else if i.str = "map[int]api.Wait" then some (.waits [])
  else if i.str = "map[int]bool" then some (.flags [])
  else none
 | none=>none
theorem zae4 {P:Program} {t:TypeId} {m:Mp} (h:zapc P t=some m):m.ents=[]:=by
 unfold zapc at h
 split at h
 ·repeat' split at h
  all_goals first | (simp only[yy1] at h;subst h;rfl) | cases h
 ·cases h
theorem MInv.putNest {G:Gl} {blks blks1:List Blk} {nu:Nat→Option Value} {w w':World} (h:MInv G blks nu w) {id:Nat} {E F:TypeId} {ex:Bool} {l:List Packet} {v:Value} {ws:Array Value} {vs:List Value} {old:Nat→Prop} {row:Option Nat}
  (hf:blks.getD id .dead=.free) (hlen:blks1.length=blks.length)
  (h1:∀ i,i≠id→¬ old i→blks1.getD i .dead=blks.getD i .dead) (h2:∀ j,old j→j≠id∧blks1.getD j .dead=.dead∧(blks.getD j .dead).live=true)
  (hok:∀ C',(cx G blks nu w).Le C'→C'.w=w'→NestOk C' 0 E F ex l v ws vs)
  (hg:w.grownBy w' row) (hrow:∀ b,row=some b→∃ j u,old j∧nu j=some u∧zwe u b)
  (hat:∀ b,zwe (.tuple #[v,.agg ws]) b→b < w'.heap.size∧(w.heap.size≤b∨∃ j u,old j∧nu j=some u∧zwe u b)) :
  ∃ nu',(cx G blks nu w).Le (cx G (blks1.set id (.nest E F ex l)) nu' w')∧MInv G (blks1.set id (.nest E F ex l)) nu' w'∧nu' id=some (.tuple #[v,.agg ws]):=by
 have hd:nu id=none:=by have:=h.ok id;rw[hf] at this;exact this
 have hid:id < blks1.length:=by
  rw[hlen]
  rcases Nat.lt_or_ge id blks.length with h3 | h3
  ·exact h3
  ·rw[yy0,List.getElem?_eq_none h3] at hf;cases hf
 refine ⟨fun i=>if i=id then some (.tuple #[v,.agg ws]) else nu i,?_⟩
 have:=h.step (w':=w') (blks':=blks1.set id (.nest E F ex l)) (nu':=fun i=>if i=id then some (.tuple #[v,.agg ws]) else nu i) (fun i=>i=id∨old i)
  (fun i u hi=>by
   by_cases e:i=id
   ·rw[e,hd] at hi;cases hi
   ·simp only[e,if_false];exact hi)
  (fun b hb hn=>hg.block b hb fun e=>by
   obtain ⟨j,u,e1,e2,e3⟩:=hrow b e.symm
   exact hn j u (.inr e1) (h2 j e1).2.2 e2 e3)
  hg.size hg.os hg.tape hg.output
  (fun i hi=>by
   have hi1:i≠id:=fun e=>hi (.inl e)
   rw[getD_set_ne (fun e=>hi1 e.symm)]
   exact h1 i hi1 fun e=>hi (.inr e))
  (fun i hi=>by simp[show i≠id from fun e=>hi (.inl e)])
  (fun hle i hi=>by
   by_cases e:i=id
   ·subst e
    rw[zp hid]
    exact ⟨v,ws,vs,by simp[cx],hok _ hle rfl⟩
   ·rcases hi with hi | hi
    ·exact absurd hi e
    ·rw[getD_set_ne (fun q=>e q.symm),(h2 i hi).2.1];trivial)
  (fun i u b hi hl hv hb=>by
   by_cases e:i=id
   ·subst e
    simp only[if_true,yy1] at hv
    subst hv
    obtain ⟨k1,k2⟩:=hat b hb
    refine ⟨k1,k2.imp (fun q=>q) ?_⟩
    rintro ⟨j,u,e1,e2,e3⟩
    exact ⟨j,u,.inr e1,(h2 j e1).2.2,e2,e3⟩
   ·rcases hi with hi | hi
    ·exact absurd hi e
    ·rw[getD_set_ne (fun q=>e q.symm),(h2 i hi).2.1] at hl;cases hl)
  (fun i i' u u' b hne hi hi' hl hl'=>by
   by_cases e:i=id
   ·by_cases e':i'=id
    ·exact absurd (e.trans e'.symm) hne
    ·rcases hi' with hi' | hi'
     ·exact absurd hi' e'
     ·rw[getD_set_ne (fun q=>e' q.symm),(h2 i' hi').2.1] at hl';cases hl'
   ·rcases hi with hi | hi
    ·exact absurd hi e
    ·rw[getD_set_ne (fun q=>e q.symm),(h2 i hi).2.1] at hl;cases hl)
 exact ⟨this.1,this.2,by simp⟩
section sound
variable {P:Program} {G:Gl} {blks:List Blk} {nu:Nat→Option Value} {w:World} (h:MInv G blks nu w)
include h
theorem zp8 {j:Nat} {r:NR} {v:Value} {E F:TypeId} {ex:Bool} {l:List Packet} (hb:blks.getD j .dead=.nest E F ex l) (hx:Rd (cx G blks nu w) (.nst j r) v) :
  ∃ v0 ws vs,nu j=some (.tuple #[v0,.agg ws])∧NestOk (cx G blks nu w) 0 E F ex l v0 ws vs∧NRd (.tuple #[v0,.agg ws]) r v:=by
 have hk:=h.ok j
 rw[hb] at hk
 obtain ⟨v0,ws,vs,e1,e2⟩:=hk
 cases hx with
 | nst hn hr =>
  have:=hn.symm.trans e1
  simp only[yy1] at this
  subst this
  exact ⟨v0,ws,vs,e1,e2,hr⟩
omit h in
theorem zp9 {v0:Value} {ws:Array Value} {r:NR} {v:Value} (h:NRd (.tuple #[v0,.agg ws]) r v):match r with
 | .whole=>v=v0
 | .el i off=>∃ g n cap,v0=.slice (some ⟨g,0,none⟩) n cap∧(0≤i∧i < (n:Int))∧v=.pointer (some ⟨g,i.toNat*6+off,none⟩)
 | .set i=>ws[i.toNat]?=some v
 | .ce i k off=>∃ g n cap,ws[i.toNat]?=some (.slice (some ⟨g,0,none⟩) n cap)∧(0≤k∧k < (n:Int))∧v=.pointer (some ⟨g,k.toNat*2+off,none⟩):=by
 obtain ⟨v1,ws1,e,h⟩:=h
 simp only[Value.tuple.injEq,Array.mk.injEq,List.cons.injEq,Value.agg.injEq,and_true] at e
 obtain ⟨rfl,rfl⟩:=e
 cases r<;>exact h
theorem zakn {j:Nat} {E F:TypeId} {ex:Bool} {l:List Packet} {v:Value} (hb:blks.getD j .dead=.nest E F ex l) (hx:Rd (cx G blks nu w) (.nst j .whole) v):∃ a cap,v=.slice a l.length cap:=by
 obtain ⟨v0,ws,vs,e1,e2,e3⟩:=zp8 h hb hx
 have e3:v=v0:=zp9 e3
 subst e3
 rcases e2.row.2 with ⟨rfl,h0⟩ | ⟨g,cap,cur,rfl,_⟩
 ·exact ⟨none,0,by rw[h0]⟩
 ·exact ⟨_,cap,rfl⟩
theorem zao3 {j:Nat} {E F:TypeId} {ex:Bool} {l:List Packet} {v:Value} {i:Int} (hb:blks.getD j .dead=.nest E F ex l) (hx:Rd (cx G blks nu w) (.nst j (.set i)) v):∃ a cap,v=.slice a (l.getD i.toNat default).Set.length cap:=by
 obtain ⟨v0,ws,vs,e1,e2,e3⟩:=zp8 h hb hx
 have e3:ws[i.toNat]?=some v:=zp9 e3
 have hlt:i.toNat < l.length:=by
  rw[← e2.size];exact (Array.getElem?_eq_some_iff.1 e3).1
 have hl:l[i.toNat]?=some (l.getD i.toNat default):=by rw[yy0,yy3 hlt];rfl
 obtain ⟨_,_,_,us,k1,_⟩:=e2.at_ i.toNat _ v hl e3
 rcases k1.2 with ⟨rfl,h0⟩ | ⟨g,cap,cur,rfl,_⟩
 ·exact ⟨none,0,by rw[h0]⟩
 ·exact ⟨_,cap,rfl⟩
theorem z0e {o:Oper} {x:Operand} {ats:Array TypeId} {T Q:TypeId} {e:Operand→Value} {n:Nat} (ho:o.op=.call { callee:=.builtin .len,args:=#[x],argTypes:=ats }) (ha:ats[0]?=some T) (hT:P.underlying T=some (.slice Q))
  (hv:∃ a cap,e x=.slice a n cap):Does P o e w (zf1 G blks nu w ⟨[],.i n,[]⟩):=by
 obtain ⟨a,cap,hv⟩:=hv
 refine Does.value (v:=.int .i64 n) (w':=w) ?_ (zam h .val)
 have hat:ats.size≠0:=by
  intro h0
  have:ats=#[]:=Array.eq_empty_of_size_eq_zero h0
  rw[this] at ha;cases ha
 simp[execOp,ho,resolve,hv,invoke,builtin,Builtin.len_,ha,run_underlying hT,goInt]
theorem z36 {o:Oper} {T Q:TypeId} {x y:Operand} {e:Operand→Value} {j:Nat} {E F:TypeId} {ex:Bool} {l:List Packet} {k:IntKind} {i:Int} (ho:o.op=.indexAddr T x y)
  (hx:Rd (cx G blks nu w) (.nst j .whole) (e x)) (hb:blks.getD j .dead=.nest E F ex l) (hy:Rd (cx G blks nu w) (.val (.int k i)) (e y)) (hT:P.underlying T=some (.slice Q)) (hn:zi P (sizeOf Q)=some 6)
  (hi:0≤i∧i < (l.length:Int)):Does P o e w (zf1 G blks nu w ⟨[0≤i∧i < (l.length:Int)],.nst j (.el i 0),[]⟩):=by
 obtain ⟨v0,ws,vs,e1,e2,e3⟩:=zp8 h hb hx
 have e3:e x=v0:=zp9 e3
 generalize hw:e y=b at hy
 cases hy
 generalize hv:e x=v at e3
 subst e3
 rcases e2.row.2 with ⟨_,h0⟩ | ⟨g,cap,cur,rfl,_,_⟩
 ·omega
 ·refine Does.value (v:=.pointer (some ((⟨g,0,none⟩:Addr).add (i.toNat*6)))) (w':=w) ?_ ⟨nu,.refl _,h,?_⟩
  ·simp[execOp,ho,hv,hw,Instr.indexAt,asIntOf,run_underlying hT,hi,zj hn w]
  ·rw[z7,Nat.zero_add]
   exact .nst e1 ⟨_,ws,rfl,g,_,cap,rfl,hi,rfl⟩
theorem z6p {o:Oper} {T Q:TypeId} {x y:Operand} {e:Operand→Value} {j:Nat} {E F:TypeId} {ex:Bool} {l:List Packet} {kd:IntKind} {i k:Int} (ho:o.op=.indexAddr T x y)
  (hx:Rd (cx G blks nu w) (.nst j (.set i)) (e x)) (hb:blks.getD j .dead=.nest E F ex l) (hy:Rd (cx G blks nu w) (.val (.int kd k)) (e y)) (hT:P.underlying T=some (.slice Q)) (hn:zi P (sizeOf Q)=some 2)
  (hi:0≤k∧k < ((l.getD i.toNat default).Set.length:Int)):Does P o e w (zf1 G blks nu w ⟨[0≤k∧k < ((l.getD i.toNat default).Set.length:Int)],.nst j (.ce i k 0),[]⟩):=by
 obtain ⟨v0,ws,vs,e1,e2,e3⟩:=zp8 h hb hx
 have e3:ws[i.toNat]?=some (e x):=zp9 e3
 generalize hw:e y=b at hy
 cases hy
 have hlt:i.toNat < l.length:=by
  rw[← e2.size];exact (Array.getElem?_eq_some_iff.1 e3).1
 have hl:l[i.toNat]?=some (l.getD i.toNat default):=by rw[yy0,yy3 hlt];rfl
 obtain ⟨_,_,_,us,k1,_⟩:=e2.at_ i.toNat _ _ hl e3
 generalize hv:e x=v at k1 e3
 generalize l.getD i.toNat default=p at *
 rcases k1.2 with ⟨_,h0⟩ | ⟨g,cap,cur,rfl,_,_⟩
 ·omega
 ·refine Does.value (v:=.pointer (some ((⟨g,0,none⟩:Addr).add (k.toNat*2)))) (w':=w) ?_ ⟨nu,.refl _,h,?_⟩
  ·simp[execOp,ho,hv,hw,Instr.indexAt,asIntOf,run_underlying hT,hi,zj hn w]
  ·rw[z7,Nat.zero_add]
   exact .nst e1 ⟨v0,_,rfl,g,_,cap,e3,hi,rfl⟩
theorem z8i {o:Oper} {T:TypeId} {x:Operand} {e:Operand→Value} {j:Nat} {E F:TypeId} {ex:Bool} {l:List Packet} {i:Int} (ho:o.op=.load T x)
  (hx:Rd (cx G blks nu w) (.nst j (.el i 4)) (e x)) (hb:blks.getD j .dead=.nest E F ex l) (ht:zi P (isAgg T)=some false) (hn:zi P (sizeOf T)=some 1):Does P o e w (zf1 G blks nu w ⟨[],.nst j (.set i),[]⟩):=by
 obtain ⟨v0,ws,vs,e1,e2,e3⟩:=zp8 h hb hx
 obtain ⟨g,n,cap,rfl,hi,hv⟩:=zp9 e3
 obtain ⟨q1,q2⟩:=e2.row
 rcases q2 with ⟨q2,_⟩ | ⟨g',cap',cur,q2,_,q3,q4,q5,q6,q7⟩
 ·cases q2
 ·simp only[Value.slice.injEq,yy1,Addr.mk.injEq,and_true] at q2
  obtain ⟨rfl,hnl,rfl⟩:=q2
  have hlt:i.toNat < l.length:=by omega
  have hl:l[i.toNat]?=some (l[i.toNat]):=yy3 hlt
  have hws:i.toNat < ws.size:=by rw[e2.size];exact hlt
  have hx2:ws[i.toNat]?=some ws[i.toNat]:=Array.getElem?_eq_getElem hws
  obtain ⟨k1,_⟩:=e2.at_ i.toNat _ _ hl hx2
  have hrun:=zb8 (P:=P) (w:=w) ht hn ⟨g,i.toNat*6+4,none⟩ [ws[i.toNat]] rfl (fun _=>rfl) (fun c u hc=>by
   have h0:c=0:=by have:=(List.getElem?_eq_some_iff.1 hc).1;simpa using this
   subst h0
   rw[z7,cell_of_row w g (i.toNat*6+4+0) cur E (0,0) q3]
   simp only[List.getElem?_cons_zero,yy1] at hc
   rw[← hc]
   have hlt2:i.toNat*6+4 < l.length*6:=by omega
   rw[← q7,List.getElem?_take_of_lt hlt2] at k1
   simpa using k1)
  refine Does.value (v:=ws[i.toNat]) (w':=w) ?_ (zam h (.nst e1 ⟨_,ws,rfl,hx2⟩))
  simp[execOp,ho,Instr.loadAt,Instr.sureAddr,hv,hrun]
theorem MInv.writeNest {j b:Nat} {E F:TypeId} {ex:Bool} {l:List Packet} {v0:Value} {ws:Array Value} {vs':List Value} {w':World} (hb:blks.getD j .dead=.nest E F ex l) (hnj:nu j=some (.tuple #[v0,.agg ws])) (hbb:zwe (.tuple #[v0,.agg ws]) b)
  (hok:∀ C',(cx G blks nu w).Le C'→C'.w=w'→NestOk C' 0 E F false l v0 ws vs')
  (hw:∀ k,k≠b→w'.heap[k]?=w.heap[k]?) (hsize:w'.heap.size=w.heap.size) (hos:w'.os=w.os) (ht:w'.tape=w.tape) (ho:w'.output=w.output) :
  (cx G blks nu w).Le (cx G (blks.set j (.nest E F false l)) nu w')∧MInv G (blks.set j (.nest E F false l)) nu w':=by
 have hj:j < blks.length:=by
  rcases Nat.lt_or_ge j blks.length with h1 | h1
  ·exact h1
  ·rw[yy0,List.getElem?_eq_none h1] at hb;cases hb
 have hl:(blks.getD j .dead).live=true:=by rw[hb];rfl
 refine h.step (fun i=>i=j) (fun _ _ h=>h) (fun k hk hn=>hw k fun e=>?_) (by omega) hos ht ho (fun i hi=>getD_set_ne (fun e=>hi e.symm)) (fun _ _=>rfl)
  (fun hle i hi=>?_) (fun i v k hi _ hv hk=>?_) (fun i i' v v' b hne hi hi'=>(hne (hi.trans hi'.symm)).elim)
 ·exact hn j _ rfl hl hnj (e ▸ hbb)
 ·subst hi
  rw[zp hj]
  exact ⟨v0,ws,vs',hnj,hok _ hle rfl⟩
 ·have:=h.low j v k hl (hi ▸ hv) hk
  exact ⟨by omega,.inr ⟨j,v,rfl,hl,hi ▸ hv,hk⟩⟩
omit h in
theorem zahe {w:World} {E sz n cap g p:Nat} {xs:List Value} {x:Value} (hr:w.ownsRow 0 E sz (.slice (some ⟨g,0,none⟩) n cap) n xs) (hp:p < n*sz) :
  ∃ cur,w.heap[g]?=some (.cells cur E (0,0))∧p+1≤cur.size∧(w.setRow g (cur.toList.take p++[x]++cur.toList.drop (p+1)).toArray).ownsRow 0 E sz (.slice (some ⟨g,0,none⟩) n cap) n (xs.take p++[x]++xs.drop (p+1)):=by
 obtain ⟨q1,q2⟩:=hr
 rcases q2 with ⟨q2,_⟩ | ⟨g',cap',cur,q2,_,q3,q4,q5,q6,q7⟩
 ·cases q2
 ·simp only[Value.slice.injEq,yy1,Addr.mk.injEq,and_true,true_and] at q2
  obtain ⟨rfl,rfl⟩:=q2
  have hle:n*sz≤cap*sz:=Nat.mul_le_mul_right _ q4
  have hcl:cur.toList.length=cap*sz:=by rw[Array.length_toList];exact q6
  have hA:p+[x].length≤cur.toList.length:=by rw[hcl];simp only[List.length_cons,List.length_nil];omega
  have hX:p+[x].length≤xs.length:=by rw[q1];simp only[List.length_cons,List.length_nil];omega
  refine ⟨cur,q3,by rw[q6];omega,by rw[show p+1=p+[x].length from rfl,zho hX];exact q1,.inr ⟨g,cap,_,rfl,Nat.zero_le _,setRow_heap w g _ _ E _ q3,q4,q5,?_,?_⟩⟩
  ·have:=zho hA
   rw[List.size_toArray]
   exact this.trans hcl
  ·rw[← q7]
   have:=zwt (l:=cur.toList) (us:=[x]) (p:=p) (m:=n*sz) (by simp only[List.length_cons,List.length_nil];omega) (by rw[hcl];exact hle)
   simpa using this
omit h in
theorem zahf {xs:List Value} {x:Value} {p q:Nat} (hp:p < xs.length):(xs.take p++[x]++xs.drop (p+1))[q]?=if q=p then some x else xs[q]?:=by
 have:=zk1? (l:=xs) (us:=[x]) (p:=p) (by simp only[List.length_cons,List.length_nil];omega) q
 rw[show p+1=p+[x].length from rfl,this]
 by_cases h1:q < p
 ·rw[if_pos h1,if_neg (by omega)]
 ·rw[if_neg h1]
  by_cases h2:q=p
  ·subst h2;simp
  ·rw[if_neg (by simp only[List.length_cons,List.length_nil];omega),if_neg h2]
theorem z8j {o:Oper} {T:TypeId} {x y:Operand} {e:Operand→Value} {j off:Nat} {E F:TypeId} {ex:Bool} {l:List Packet} {i n:Int} (ho:o.op=.store T x y)
  (hx:Rd (cx G blks nu w) (.nst j (.el i off)) (e x)) (hy:Rd (cx G blks nu w) (.val (.int .i64 n)) (e y)) (hb:blks.getD j .dead=.nest E F ex l) (hn:zi P (sizeOf T)=some 1) (hoff:off < 4) :
  Does P o e w (zf1 G blks nu w ⟨[],.any,[(j,.nest E F false l)]⟩):=by
 obtain ⟨v0,ws,vs,e1,e2,e3⟩:=zp8 h hb hx
 obtain ⟨g,m,cap,rfl,hi,hv⟩:=zp9 e3
 have hyv:e y=.int .i64 n:=by
  generalize e y=b at hy
  cases hy;rfl
 have hm:m=l.length:=by
  rcases e2.row.2 with ⟨q2,_⟩ | ⟨g',cap',cur,q2,_⟩
  ·cases q2
  ·simp only[Value.slice.injEq] at q2;exact q2.2.1
 subst hm
 have hp:i.toNat*6+off < l.length*6:=by omega
 obtain ⟨cur,c1,c2,c3⟩:=zahe (x:=.int .i64 n) e2.row hp
 have hvl:vs.length=l.length*6:=e2.row.1
 have hst:=run_storeCells_at P g (i.toNat*6+off) E [Value.int .i64 n] 0 cur w c1 (by simp only[Nat.add_zero,List.length_cons,List.length_nil];exact c2) (by intro u hu;simp only[List.mem_singleton] at hu;subst hu;rfl)
 simp only[Nat.add_zero,List.length_cons,List.length_nil,Nat.zero_add] at hst
 have hwo:∀ k,k≠g→(w.setRow g (cur.toList.take (i.toNat*6+off)++[Value.int .i64 n]++cur.toList.drop (i.toNat*6+off+1)).toArray).heap[k]?=w.heap[k]?:=fun k hk=>setRow_other w g k _ hk
 obtain ⟨m1,m2⟩:=MInv.writeNest h (w':=w.setRow g (cur.toList.take (i.toNat*6+off)++[Value.int .i64 n]++cur.toList.drop (i.toNat*6+off+1)).toArray) (b:=g) hb e1 (.inr ⟨_,ws,rfl,.inl rfl⟩) (fun C' hle hC=>by
  refine ⟨by rw[hC];exact c3,e2.size,e2.most,fun k p x hk hkx=>?_,e2.apart0,e2.apart⟩
  obtain ⟨k1,⟨a0,a1,a2,a3,⟨b0,b1,b2,b3⟩,_⟩,⟨d,d1,d2⟩,us,u1,u2,u3⟩:=e2.at_ k p x hk hkx
  have get:∀ q,(vs.take (i.toNat*6+off)++[Value.int .i64 n]++vs.drop (i.toNat*6+off+1))[q]?=if q=i.toNat*6+off then some (.int .i64 n) else vs[q]?:=fun q=>zahf (by omega)
  have int_at:∀ (q:Nat) (a:Int),vs[q]?=some (.int .i64 a)→∃ a':Int,(vs.take (i.toNat*6+off)++[Value.int .i64 n]++vs.drop (i.toNat*6+off+1))[q]?=some (.int .i64 a'):=by
   intro q a hq
   rw[get]
   split
   ·exact ⟨n,rfl⟩
   ·exact ⟨a,hq⟩
  refine ⟨by rw[get,if_neg (by omega)];exact k1,?_,⟨d,by rw[get,if_neg (by omega)];exact d1,d2.mono hle⟩,us,by rw[hC];exact zfg u1 (fun b hbx=>hwo b (fun q=>e2.apart0 k x b hkx hbx (by rw[q];rfl))),u2,fun q y hq=>?_⟩
  ·obtain ⟨a0',z0⟩:=int_at _ _ b0
   obtain ⟨a1',z1⟩:=int_at _ _ b1
   obtain ⟨a2',z2⟩:=int_at _ _ b2
   obtain ⟨a3',z3⟩:=int_at _ _ b3
   exact ⟨a0',a1',a2',a3',⟨z0,z1,z2,z3⟩,fun q=>by cases q⟩
  ·obtain ⟨a,b,y1,y2,_⟩:=u3 q y hq
   exact ⟨a,b,y1,y2,fun q=>by cases q⟩) hwo (by simp[World.setRow]) rfl rfl rfl
 refine Does.skip (w':=w.setRow g (cur.toList.take (i.toNat*6+off)++[Value.int .i64 n]++cur.toList.drop (i.toNat*6+off+1)).toArray) ?_ ⟨nu,by simpa[upd] using m1,by simpa[upd] using m2,.any⟩
 have hcells:(Value.int .i64 n).cells.toList=[Value.int .i64 n]:=rfl
 simp[execOp,ho,Instr.storeAt,Instr.sureAddr,hv,hyv,storeVar,zj hn w,hcells,hst,Value.cells]
theorem z8k {o:Oper} {T:TypeId} {x y:Operand} {e:Operand→Value} {j off:Nat} {E F:TypeId} {ex:Bool} {l:List Packet} {i k n:Int} (ho:o.op=.store T x y)
  (hx:Rd (cx G blks nu w) (.nst j (.ce i k off)) (e x)) (hy:Rd (cx G blks nu w) (.val (.int .i64 n)) (e y)) (hb:blks.getD j .dead=.nest E F ex l) (hn:zi P (sizeOf T)=some 1) (hoff:off < 2) :
  Does P o e w (zf1 G blks nu w ⟨[],.any,[(j,.nest E F false l)]⟩):=by
 obtain ⟨v0,ws,vs,e1,e2,e3⟩:=zp8 h hb hx
 obtain ⟨g,m,cap,hws,hi,hv⟩:=zp9 e3
 have hyv:e y=.int .i64 n:=by
  generalize e y=b at hy
  cases hy;rfl
 have hlt:i.toNat < l.length:=by
  rw[← e2.size];exact (Array.getElem?_eq_some_iff.1 hws).1
 have hl:l[i.toNat]?=some l[i.toNat]:=yy3 hlt
 obtain ⟨_,_,_,us0,u1,_,_⟩:=e2.at_ i.toNat _ _ hl hws
 have hm:m=l[i.toNat].Set.length:=by
  rcases u1.2 with ⟨q2,_⟩ | ⟨g',cap',cur,q2,_⟩
  ·cases q2
  ·simp only[Value.slice.injEq] at q2;exact q2.2.1
 subst hm
 have hp:k.toNat*2+off < l[i.toNat].Set.length*2:=by omega
 obtain ⟨cur,c1,c2,c3⟩:=zahe (x:=.int .i64 n) u1 hp
 have hul:us0.length=l[i.toNat].Set.length*2:=u1.1
 have hst:=run_storeCells_at P g (k.toNat*2+off) F [Value.int .i64 n] 0 cur w c1 (by simp only[Nat.add_zero,List.length_cons,List.length_nil];exact c2) (by intro u hu;simp only[List.mem_singleton] at hu;subst hu;rfl)
 simp only[Nat.add_zero,List.length_cons,List.length_nil,Nat.zero_add] at hst
 have hwo:∀ q,q≠g→(w.setRow g (cur.toList.take (k.toNat*2+off)++[Value.int .i64 n]++cur.toList.drop (k.toNat*2+off+1)).toArray).heap[q]?=w.heap[q]?:=fun q hq=>setRow_other w g q _ hq
 obtain ⟨m1,m2⟩:=MInv.writeNest h (w':=w.setRow g (cur.toList.take (k.toNat*2+off)++[Value.int .i64 n]++cur.toList.drop (k.toNat*2+off+1)).toArray) (b:=g) hb e1 (.inr ⟨v0,ws,rfl,.inr ⟨_,Array.mem_toList_iff.2 (Array.mem_of_getElem? hws),rfl⟩⟩) (fun C' hle hC=>by
  refine ⟨by rw[hC];exact zfg e2.row (fun b hbx=>hwo b (fun q=>e2.apart0 _ _ g hws rfl (q ▸ hbx))),e2.size,e2.most,fun q p x hq hqx=>?_,e2.apart0,e2.apart⟩
  obtain ⟨k1,⟨a0,a1,a2,a3,bs,_⟩,⟨d,d1,d2⟩,us,u1',u2,u3⟩:=e2.at_ q p x hq hqx
  refine ⟨k1,⟨a0,a1,a2,a3,bs,fun q=>by cases q⟩,⟨d,d1,d2.mono hle⟩,?_⟩
  by_cases hqi:q=i.toNat
  ·subst hqi
   have hp':p=l[i.toNat]:=Option.some.inj (hq.symm.trans hl)
   have hx':x=.slice (some ⟨g,0,none⟩) l[i.toNat].Set.length cap:=Option.some.inj (hqx.symm.trans hws)
   subst hp'
   subst hx'
   obtain ⟨_,_,_,us1,v1,v2,v3⟩:=e2.at_ i.toNat _ _ hl hws
   have hus:us1=us0:=by
    obtain ⟨_,w1⟩:=v1
    obtain ⟨_,w2⟩:=u1
    rcases w1 with ⟨z,_⟩ | ⟨g1,cap1,cur1,z1,_,z2,_,_,_,z3⟩
    ·cases z
    ·rcases w2 with ⟨z,_⟩ | ⟨g2,cap2,cur2,y1,_,y2,_,_,_,y3⟩
     ·cases z
     ·simp only[Value.slice.injEq,yy1,Addr.mk.injEq,and_true,true_and] at z1 y1
      obtain ⟨rfl,rfl⟩:=z1
      obtain ⟨rfl,rfl⟩:=y1
      have:cur1=cur2:=by
       have:=z2.symm.trans y2
       simp only[yy1,Obj.cells.injEq,and_true] at this
       exact this
      rw[← z3,← y3,this]
   subst hus
   have get:∀ q,(us1.take (k.toNat*2+off)++[Value.int .i64 n]++us1.drop (k.toNat*2+off+1))[q]?=if q=k.toNat*2+off then some (.int .i64 n) else us1[q]?:=fun q=>zahf (by omega)
   have int_at:∀ (q:Nat) (a:Int),us1[q]?=some (.int .i64 a)→∃ a':Int,(us1.take (k.toNat*2+off)++[Value.int .i64 n]++us1.drop (k.toNat*2+off+1))[q]?=some (.int .i64 a'):=by
    intro q a hq
    rw[get]
    split
    ·exact ⟨n,rfl⟩
    ·exact ⟨a,hq⟩
   refine ⟨_,by rw[hC];exact c3,v2,fun q y hq=>?_⟩
   obtain ⟨a,b,y1,y2,_⟩:=v3 q y hq
   obtain ⟨a',z0⟩:=int_at _ _ y1
   obtain ⟨b',z1⟩:=int_at _ _ y2
   exact ⟨a',b',z0,z1,fun q=>by cases q⟩
  ·refine ⟨us,by rw[hC];exact zfg u1' (fun b hbx=>hwo b (fun z=>e2.apart q i.toNat x _ b hqi hqx hws hbx (by rw[z];rfl))),u2,fun r y hr=>?_⟩
   obtain ⟨a,b,y1,y2,_⟩:=u3 r y hr
   exact ⟨a,b,y1,y2,fun q=>by cases q⟩) hwo (by simp[World.setRow]) rfl rfl rfl
 refine Does.skip (w':=w.setRow g (cur.toList.take (k.toNat*2+off)++[Value.int .i64 n]++cur.toList.drop (k.toNat*2+off+1)).toArray) ?_ ⟨nu,by simpa[upd] using m1,by simpa[upd] using m2,.any⟩
 have hcells:(Value.int .i64 n).cells.toList=[Value.int .i64 n]:=rfl
 simp[execOp,ho,Instr.storeAt,Instr.sureAddr,hv,hyv,storeVar,zj hn w,hcells,hst,Value.cells]
theorem z37 {o:Oper} {t E F bytes js id:Nat} {x:Operand} {e:Operand→Value} {g:Operand→AV} {z:Value} {a0 a1 a2 a3:Int} {c5:AV} {s:List Power} {d:List Int} (ho:o.op=.buildSlice t 1 #[(0,x)]) (hg:Rd (cx G blks nu w) (g x) (e x))
  (hi:zn6 P t=some (E,6,bytes)) (hz:(P.info? E).bind (·.zero)=some z) (hfill:zn5 (fun i=>some (i*6,6)) ((zth z (1*6)).toList.map .val) [(0,g x)]=some [.i a0,.i a1,.i a2,.i a3,.own js,c5])
  (hb:blks.getD js .dead=.rows F (.powers s)) (h5:∀ C v,Rd C c5 v→Rd C (.sl (.ints d)) v) (hf:blks.getD id .dead=.free) (hne:js≠id) :
  Does P o e w (zf1 G blks nu w ⟨[],.nst id .whole,[(js,.dead),(id,.nest E F true [⟨a0,a1,a2,a3,s,d⟩])]⟩):=by
 obtain ⟨hT,i,z',hi1,hz',hzs,hsz,hby,hpos⟩:=zl6 hi
 rw[hi1] at hz
 simp only[Option.bind_some,hz',yy1] at hz
 subst hz
 obtain ⟨cells,h1,h2⟩:=zng (C:=cx G blks nu w) [(0,g x)] [(0,e x)] _ _ (zth z' (1*6)) rfl
  (fun i p q hi hj=>by
   cases i with
   | zero =>
    simp only[List.getElem?_cons_zero,yy1] at hi hj
    subst hi;subst hj
    exact ⟨rfl,hg⟩
   | succ i=>simp at hi) (zpg _ _) hfill
 have hlen:cells.size=1*6:=by rw[← Array.length_toList,h2.1];rfl
 obtain ⟨v0,r0,q0,k0,h2⟩:=h2.uncons
 obtain ⟨v1,r1,q1,k1,h2⟩:=h2.uncons
 obtain ⟨v2,r2,q2,k2,h2⟩:=h2.uncons
 obtain ⟨v3,r3,q3,k3,h2⟩:=h2.uncons
 obtain ⟨v4,r4,q4,k4,h2⟩:=h2.uncons
 obtain ⟨v5,r5,q5,k5,h2⟩:=h2.uncons
 have:=h2.unnil
 subst this
 subst q5;subst q4;subst q3;subst q2;subst q1
 cases k0;cases k1;cases k2;cases k3
 have hk:=h.ok js
 rw[hb] at hk
 obtain ⟨u,us,f1,f2,f3,f4⟩:=hk
 have hu:v4=u:=by
  cases k4 with
  | own hn=>exact Option.some.inj (hn.symm.trans f1)
 subst hu
 have hrun:=zpk w t E 1 #[(0,e x)] cells i z' hT hi1 hz' (by rw[hsz];omega) (by rw[hsz];exact h1)
 have hjl:js < blks.length:=by
  rcases Nat.lt_or_ge js blks.length with q | q
  ·exact q
  ·rw[yy0,List.getElem?_eq_none q] at hb;cases hb
 have hlow:∀ b,zcu v4=some b→b < w.heap.size:=fun b hbb=>(h.low js v4 b (by rw[hb];rfl) f1 (zwf hbb)).1
 have hal:∀ b,b < w.heap.size→(w.alloc (.cells cells E)).heap[b]?=w.heap[b]?:=fun b hbb=>Below.heap_alloc w _ b hbb
 have hown:(w.alloc (.cells cells E)).ownsRow 0 E 6 (.slice (some ⟨w.heap.size,0,none⟩) 1 1) 1 cells.toList:=World.ownsRow_lit (base:=0) (e:=E) (size:=6) w cells 1 (Nat.zero_le _) (by unfold maxLen;omega) hlen
 rw[q0] at hown
 obtain ⟨nu',m1,m2,m3⟩:=h.putNest (blks1:=blks.set js .dead) (w':=w.alloc (.cells cells E)) (id:=id) (E:=E) (F:=F) (ex:=true) (l:=[⟨a0,a1,a2,a3,s,d⟩]) (v:=.slice (some ⟨w.heap.size,0,none⟩) 1 1) (ws:=#[v4])
  (vs:=[.int .i64 a0,.int .i64 a1,.int .i64 a2,.int .i64 a3,v4,v5]) (old:=fun i=>i=js) (row:=none) hf (by simp) (fun i _ h=>getD_set_ne (fun q=>h q.symm)) (fun i hi=>by subst hi;exact ⟨hne,zp hjl,by rw[hb];rfl⟩)
  (fun C' hle hC=>by
   refine ⟨by rw[hC];exact hown,rfl,by show 1≤maxLen;unfold maxLen;omega,fun k p x' hp hx'=>?_,fun k x' b hx' hbb=>?_,fun k k' x' x'' b hkk hx' hx'' _=>?_⟩
   ·have hk0:k=0:=by have:=(List.getElem?_eq_some_iff.1 hp).1;simpa using this
    subst hk0
    simp only[List.getElem?_cons_zero,yy1] at hp
    simp only[List.getElem?_toArray,List.getElem?_cons_zero,yy1] at hx'
    subst hp;subst hx'
    refine ⟨rfl,⟨a0,a1,a2,a3,⟨rfl,rfl,rfl,rfl⟩,fun _=>⟨rfl,rfl,rfl,rfl⟩⟩,⟨v5,rfl,(h5 _ _ k5).mono hle⟩,us,?_,f4,fun q y hq=>?_⟩
    ·rw[hC];exact zfg f2 (fun b hbb=>hal b (hlow b hbb))
    ·have hql:q < s.length:=(List.getElem?_eq_some_iff.1 hq).1
     have hy:s.getD q default=y:=by rw[yy0,hq];rfl
     have g0:=f3 q 0 hql (by show 0 < 2;omega)
     have g1:=f3 q 1 hql (by show 1 < 2;omega)
     have hul:us.length=s.length*2:=f2.1
     have e0:(Sl.powers s).cell q 0=.i y.V:=by show (Power.cells (s.getD q default)).getD 0 .any=_;rw[hy];rfl
     have e1:(Sl.powers s).cell q 1=.i y.N:=by show (Power.cells (s.getD q default)).getD 1 .any=_;rw[hy];rfl
     rw[e0] at g0
     rw[e1] at g1
     have g0:Rd (cx G blks nu w) (.i y.V) (us.getD (q*2+0) undef):=g0
     have g1:Rd (cx G blks nu w) (.i y.N) (us.getD (q*2+1) undef):=g1
     have p0:us[q*2]?=some (us.getD (q*2+0) undef):=by rw[Nat.add_zero,yy0,yy3 (by omega)];rfl
     have p1:us[q*2+1]?=some (us.getD (q*2+1) undef):=by rw[yy0,yy3 (by omega)];rfl
     generalize us.getD (q*2+0) undef=n0 at g0 p0
     generalize us.getD (q*2+1) undef=n1 at g1 p1
     cases g0;cases g1
     exact ⟨y.V,y.N,p0,p1,fun _=>⟨rfl,rfl⟩⟩
   ·have hk0:k=0:=by have:=(Array.getElem?_eq_some_iff.1 hx').1;simpa using this
    subst hk0
    simp only[List.getElem?_toArray,List.getElem?_cons_zero,yy1] at hx'
    subst hx'
    intro hq
    have:=hlow b hbb
    simp only[zcu,yy1] at hq
    omega
   ·have h0:k=0:=by have:=(Array.getElem?_eq_some_iff.1 hx').1;simpa using this
    have h0':k'=0:=by have:=(Array.getElem?_eq_some_iff.1 hx'').1;simpa using this
    exact absurd (h0.trans h0'.symm) hkk)
  (World.grownBy_alloc w _ none) (fun b hb=>by cases hb) (fun b hbb=>by
   rcases hbb with hbb | ⟨y0,ys,hbb,hh⟩
   ·cases hbb
   ·simp only[Value.tuple.injEq,Array.mk.injEq,List.cons.injEq,Value.agg.injEq,and_true] at hbb
    obtain ⟨rfl,rfl⟩:=hbb
    rw[zq7]
    rcases hh with hh | ⟨y,hy,hh⟩
    ·simp only[zcu,yy1] at hh
     omega
    ·have hy:y=v4:=by simpa using hy
     subst hy
     exact ⟨by have:=hlow b hh;omega,.inr ⟨js,y,rfl,f1,zwf hh⟩⟩)
 refine Does.value (v:=.slice (some ⟨w.heap.size,0,none⟩) 1 1) (w':=w.alloc (.cells cells E)) ?_ ⟨nu',by simpa[upd] using m1,by simpa[upd] using m2,.nst m3 ⟨_,_,rfl,rfl⟩⟩
 simp only[execOp,ho,Sem.run_bind]
 have hpa:(#[((0:Nat),x)].map fun p=>(p.1,e p.2))=#[(0,e x)]:=by simp
 simp only[hpa,hrun,Result.andThen_ok,Sem.run_pure]
omit h in
theorem zako {C:Cx} {E F:TypeId} {ex:Bool} {l:List Packet} {v0:Value} {ws:Array Value} {vs:List Value} (hY:NestOk C 0 E F ex l v0 ws vs):∀ u,u∈vs→u.oneCell'=true:=by
 intro u hu
 obtain ⟨q,hq,rfl⟩:=List.getElem_of_mem hu
 have hl:vs.length=l.length*6:=hY.row.1
 have hk:q / 6 < l.length:=by omega
 have hp:l[q / 6]?=some l[q / 6]:=yy3 hk
 have hx:ws[q / 6]?=some (ws[q / 6]'(by rw[hY.size];exact hk)):=Array.getElem?_eq_getElem _
 obtain ⟨k1,⟨a0,a1,a2,a3,⟨b0,b1,b2,b3⟩,_⟩,⟨d,d1,d2⟩,us,u1,_⟩:=hY.at_ _ _ _ hp hx
 have hq?:vs[q]?=some vs[q]:=yy3 hq
 have fin:∀ (c:Nat) (x:Value),q % 6=c→vs[q / 6*6+c]?=some x→x.oneCell'=true→vs[q].oneCell'=true:=by
  intro c x hc hx h1
  have:q / 6*6+c=q:=by omega
  rw[this,hq?] at hx
  rw[Option.some.inj hx];exact h1
 rcases (show q % 6=0∨q % 6=1∨q % 6=2∨q % 6=3∨q % 6=4∨q % 6=5 by omega) with hc | hc | hc | hc | hc | hc
 ·exact fin 0 _ hc b0 rfl
 ·exact fin 1 _ hc b1 rfl
 ·exact fin 2 _ hc b2 rfl
 ·exact fin 3 _ hc b3 rfl
 ·refine fin 4 _ hc k1 ?_
  rcases u1.2 with ⟨z,_⟩ | ⟨g,cap,cur,z,_⟩<;>rw[z]<;>rfl
 ·refine fin 5 _ hc d1 ?_
  cases d2<;>rfl
omit h in
theorem zac9 (C:Cx) (E F:TypeId) (ex:Bool):NestOk C 0 E F ex [] (.slice none 0 0) #[] [] :=
 ⟨World.ownsRow_nil _ _ _ _,rfl,Nat.zero_le _,fun k p x hp=>by simp at hp,fun k x b hx=>by simp at hx,fun k k' x x' b _ hx=>by simp at hx⟩
theorem ztk {o:Oper} {t E F bytes id jy:Nat} {x y:Operand} {e:Operand→Value} {exx exy:Bool} {lx ly:List Packet} {wsx wsy:Array Value} {vsx vsy:List Value} {oldx:Option Nat} {blks1:List Blk}
  (ho:o.op=.call { callee:=.builtin .append,args:=#[x,y],argTypes:=#[t,t] }) (hi:zn6 P t=some (E,6,bytes)) (hX:NestOk (cx G blks nu w) 0 E F exx lx (e x) wsx vsx)
  (hxj:∀ j,oldx=some j→nu j=some (.tuple #[e x,.agg wsx])∧(blks.getD j .dead).live=true∧j≠id∧j≠jy) (hx0:oldx=none→e x=.slice none 0 0∧wsx=#[])
  (hby:blks.getD jy .dead=.nest E F exy ly) (hyj:nu jy=some (.tuple #[e y,.agg wsy])) (hY:NestOk (cx G blks nu w) 0 E F exy ly (e y) wsy vsy) (hjy:jy≠id) (hf:blks.getD id .dead=.free)
  (hlen:blks1.length=blks.length) (h1:∀ i,i≠id→¬ (i=jy∨oldx=some i)→blks1.getD i .dead=blks.getD i .dead) (h2:∀ j,j=jy∨oldx=some j→blks1.getD j .dead=.dead) (hob:(lx.length+ly.length)*bytes≤140737488355328) :
  Does P o e w fun v w'=>∃ nu',(cx G blks nu w).Le (cx G (blks1.set id (.nest E F (exx&&exy) (lx++ly))) nu' w')∧MInv G (blks1.set id (.nest E F (exx&&exy) (lx++ly))) nu' w'∧Rd (cx G (blks1.set id (.nest E F (exx&&exy) (lx++ly))) nu' w') (.nst id .whole) v:=by
 obtain ⟨hT,i,z,hi1,hz,hzs,hsz,hby',hpos⟩:=zl6 hi
 have hmax:lx.length+ly.length≤maxLen:=by
  have:lx.length+ly.length≤(lx.length+ly.length)*bytes:=Nat.le_mul_of_pos_right _ hpos
  unfold maxLen;omega
 have liveY:(blks.getD jy .dead).live=true:=by rw[hby];rfl
 have hasX:∀ b,zwe (.tuple #[e x,.agg wsx]) b→∃ j,oldx=some j:=by
  intro b hb
  cases ox:oldx with
  | some j=>exact ⟨j,rfl⟩
  | none =>
   obtain ⟨q1,q2⟩:=hx0 ox
   rw[q1,q2] at hb
   rcases hb with hb | ⟨v0,ws,hb,hh⟩
   ·cases hb
   ·simp only[Value.tuple.injEq,Array.mk.injEq,List.cons.injEq,Value.agg.injEq,and_true] at hb
    obtain ⟨rfl,rfl⟩:=hb
    rcases hh with hh | ⟨u,hu,_⟩
    ·cases hh
    ·simp at hu
 have lowX:∀ b,zwe (.tuple #[e x,.agg wsx]) b→b < w.heap.size:=by
  intro b hb
  obtain ⟨j,hj⟩:=hasX b hb
  obtain ⟨q1,q2,_⟩:=hxj j hj
  exact (h.low j _ b q2 q1 hb).1
 have lowY:∀ b,zwe (.tuple #[e y,.agg wsy]) b→b < w.heap.size:=fun b hb=>(h.low jy _ b liveY hyj hb).1
 have apXY:∀ b,zwe (.tuple #[e x,.agg wsx]) b→¬ zwe (.tuple #[e y,.agg wsy]) b:=by
  intro b hb
  obtain ⟨j,hj⟩:=hasX b hb
  obtain ⟨q1,q2,_,q3⟩:=hxj j hj
  exact h.apart j jy _ _ b q3 q2 liveY q1 hyj hb
 have rowB:∀ {v0:Value} {ws:Array Value} {b:Nat},zcu v0=some b→zwe (.tuple #[v0,.agg ws]) b:=fun hb=>.inr ⟨_,_,rfl,.inl hb⟩
 have setB:∀ {v0:Value} {ws:Array Value} {k:Nat} {u:Value} {b:Nat},ws[k]?=some u→zcu u=some b→zwe (.tuple #[v0,.agg ws]) b:=fun hu hb=>.inr ⟨_,_,rfl,.inr ⟨_,Array.mem_toList_iff.2 (Array.mem_of_getElem? hu),hb⟩⟩
 have fin:∀ (v':Value) (w':World),(execOp e o).run P w=.ok (.value v') w'→w'.ownsRow 0 E 6 v' (lx.length+ly.length) (vsx++vsy)→w.grownBy w' (e x).ownBlock→(v'.ownBlock=(e x).ownBlock∨v'.ownBlock=some w.heap.size) →
   Does P o e w fun v w'=>∃ nu',(cx G blks nu w).Le (cx G (blks1.set id (.nest E F (exx&&exy) (lx++ly))) nu' w')∧MInv G (blks1.set id (.nest E F (exx&&exy) (lx++ly))) nu' w'∧Rd (cx G (blks1.set id (.nest E F (exx&&exy) (lx++ly))) nu' w') (.nst id .whole) v:=by
  intro v' w' hrun hown hg hv
  have hvx:vsx.length=lx.length*6:=hX.row.1
  have same:∀ b,b < w.heap.size→zcu (e x)≠some b→w'.heap[b]?=w.heap[b]?:=fun b hb hne=>hg.block b hb (fun q=>hne (by rw[zp7 hX.row];exact q.symm))
  have hv':∀ b,zcu v'=some b→zcu (e x)=some b∨b=w.heap.size:=by
   intro b hb
   rw[zp7 hown] at hb
   rcases hv with q | q
   ·left;rw[zp7 hX.row,← q];exact hb
   ·right;rw[q] at hb;exact (Option.some.inj hb).symm
  have wsAt:∀ (k:Nat) (u:Value),(wsx++wsy)[k]?=some u→(k < lx.length∧wsx[k]?=some u)∨(lx.length≤k∧wsy[k - lx.length]?=some u):=by
   intro k u hu
   rw[Array.getElem?_append,hX.size] at hu
   split at hu
   ·exact .inl ⟨by assumption,hu⟩
   ·exact .inr ⟨by omega,hu⟩
  have inner:∀ (k:Nat) (u:Value) (b:Nat),(wsx++wsy)[k]?=some u→zcu u=some b→b < w.heap.size∧zcu (e x)≠some b:=by
   intro k u b hu hb
   rcases wsAt k u hu with ⟨_,h3⟩ | ⟨_,h3⟩
   ·exact ⟨lowX b (setB h3 hb),hX.apart0 k u b h3 hb⟩
   ·exact ⟨lowY b (setB h3 hb),fun q=>apXY b (rowB q) (setB h3 hb)⟩
  obtain ⟨nu',m1,m2,m3⟩:=h.putNest (blks1:=blks1) (w':=w') (id:=id) (E:=E) (F:=F) (ex:=exx&&exy) (l:=lx++ly) (v:=v') (ws:=wsx++wsy) (vs:=vsx++vsy) (old:=fun j=>j=jy∨oldx=some j) (row:=(e x).ownBlock) hf hlen h1
   (fun j hj=>by
    rcases hj with rfl | hj
    ·exact ⟨hjy,h2 _ (.inl rfl),liveY⟩
    ·exact ⟨(hxj j hj).2.2.1,h2 _ (.inr hj),(hxj j hj).2.1⟩)
   (fun C' hle hC=>by
    have rowAt:∀ (u:Value) (n:Nat) (us:List Value),w.ownsRow 0 F 2 u n us→(∀ b,zcu u=some b→b < w.heap.size∧zcu (e x)≠some b)→C'.w.ownsRow 0 F 2 u n us:=fun u n us hu hb=>by
     rw[hC];exact zfg hu (fun b hbb=>same b (hb b hbb).1 (hb b hbb).2)
    refine ⟨by rw[hC,yy6];exact hown,by rw[Array.size_append,hX.size,hY.size,yy6],by rw[yy6];exact hmax,fun k p u hp hu=>?_,fun k u b hu hb=>?_,fun k k' u u' b hkk hu hu' hb=>?_⟩
    ·rcases wsAt k u hu with ⟨hk,h3⟩ | ⟨hk,h3⟩
     ·rw[List.getElem?_append_left hk] at hp
      have g:∀ q,q < lx.length*6→(vsx++vsy)[q]?=vsx[q]?:=fun q hq=>List.getElem?_append_left (by omega)
      obtain ⟨k1,⟨a0,a1,a2,a3,bs,be⟩,⟨d,d1,d2⟩,us,u1,u2,u3⟩:=hX.at_ k p u hp h3
      rw[g _ (by omega),g _ (by omega),g _ (by omega),g _ (by omega),g _ (by omega),g _ (by omega)]
      refine ⟨k1,⟨a0,a1,a2,a3,bs,fun q=>be (by simp only[yy7] at q;exact q.1)⟩,⟨d,d1,d2.mono hle⟩,us,rowAt u _ us u1 (fun b hb=>inner k u b hu hb),u2,fun q y hq=>?_⟩
      obtain ⟨a,b,y1,y2,y3⟩:=u3 q y hq
      exact ⟨a,b,y1,y2,fun q=>y3 (by simp only[yy7] at q;exact q.1)⟩
     ·rw[List.getElem?_append_right hk] at hp
      have g:∀ c,(vsx++vsy)[k*6+c]?=vsy[(k - lx.length)*6+c]?:=fun c=>by
       rw[List.getElem?_append_right (by omega)]
       congr 1;omega
      have g0:=g 0
      rw[Nat.add_zero,Nat.add_zero] at g0
      obtain ⟨k1,⟨a0,a1,a2,a3,bs,be⟩,⟨d,d1,d2⟩,us,u1,u2,u3⟩:=hY.at_ (k - lx.length) p u hp h3
      rw[g0,g,g,g,g,g]
      refine ⟨k1,⟨a0,a1,a2,a3,bs,fun q=>be (by simp only[yy7] at q;exact q.2)⟩,⟨d,d1,d2.mono hle⟩,us,rowAt u _ us u1 (fun b hb=>inner k u b hu hb),u2,fun q y hq=>?_⟩
      obtain ⟨a,b,y1,y2,y3⟩:=u3 q y hq
      exact ⟨a,b,y1,y2,fun q=>y3 (by simp only[yy7] at q;exact q.2)⟩
    ·intro hq
     obtain ⟨q1,q2⟩:=inner k u b hu hb
     rcases hv' b hq with q3 | q3
     ·exact q2 q3
     ·omega
    ·rcases wsAt k u hu with ⟨c1,h3⟩ | ⟨c1,h3⟩<;>rcases wsAt k' u' hu' with ⟨c2,h4⟩ | ⟨c2,h4⟩
     ·exact hX.apart k k' u u' b hkk h3 h4 hb
     ·exact fun q=>apXY b (setB h3 hb) (setB h4 q)
     ·exact fun q=>apXY b (setB h4 q) (setB h3 hb)
     ·exact hY.apart (k - lx.length) (k' - lx.length) u u' b (by omega) h3 h4 hb)
   hg (fun b hb=>by
    have hb:zcu (e x)=some b:=by rw[zp7 hX.row];exact hb
    obtain ⟨j,hj⟩:=hasX b (rowB hb)
    exact ⟨j,_,.inr hj,(hxj j hj).1,rowB hb⟩)
   (fun b hb=>by
    rcases hb with hb | ⟨v0,ws,hb,hh⟩
    ·cases hb
    ·simp only[Value.tuple.injEq,Array.mk.injEq,List.cons.injEq,Value.agg.injEq,and_true] at hb
     obtain ⟨rfl,rfl⟩:=hb
     have lt:b < w'.heap.size∨b < w.heap.size→b < w'.heap.size:=fun q=>q.elim (fun q=>q) (fun q=>Nat.lt_of_lt_of_le q hg.size)
     rcases hh with hh | ⟨u,hu,hh⟩
     ·refine ⟨(hown.lt b (by rw[← zp7 hown];exact hh)).2,?_⟩
      rcases hv' b hh with q | q
      ·obtain ⟨j,hj⟩:=hasX b (rowB q)
       exact .inr ⟨j,_,.inr hj,(hxj j hj).1,rowB q⟩
      ·exact .inl (by omega)
     ·obtain ⟨k,hk⟩:=Array.getElem?_of_mem (Array.mem_toList_iff.1 hu)
      rcases wsAt k u hk with ⟨_,h3⟩ | ⟨_,h3⟩
      ·obtain ⟨j,hj⟩:=hasX b (setB h3 hh)
       exact ⟨lt (.inr (lowX b (setB h3 hh))),.inr ⟨j,_,.inr hj,(hxj j hj).1,setB h3 hh⟩⟩
      ·exact ⟨lt (.inr (lowY b (setB h3 hh))),.inr ⟨jy,_,.inl rfl,hyj,setB h3 hh⟩⟩)
  exact Does.value (v:=v') (w':=w') hrun ⟨nu',m1,m2,.nst m3 ⟨_,_,rfl,rfl⟩⟩
 rcases hY.row.2 with ⟨hy,h0⟩ | ⟨g,cap,cur,hy,_⟩
 ·have hvy:vsy=[]:=List.eq_nil_of_length_eq_zero (by rw[hY.row.1,h0,Nat.zero_mul])
  have hrun:=run_append_owned_none (P:=P) (w:=w) (ty:=o.type) 0 t E i 6 hT hi1 (e x) lx.length vsx hX.row
  refine fin (e x) w ?_ (by rw[hvy,h0,List.append_nil,Nat.add_zero];exact hX.row) ⟨rfl,rfl,rfl,Nat.le_refl _,fun _ _ _=>rfl⟩ (.inl rfl)
  simp[execOp,ho,resolve,invoke,builtin,hy,hrun,Result.andThen]
 ·obtain ⟨v',w',hrun,k1,k2,_,k4⟩:=run_append_own_at (P:=P) w 0 t o.type E i z 6 bytes hT hi1 hz hsz hby' (hzs.trans hsz) (by omega) (e x) lx.length vsx hX.row ⟨g,0,none⟩ ly.length cap vsy hY.row.1 (hY.row.cells (g:=g) (by rw[hy];rfl)) (zako hY) hmax hob (Nat.zero_le _)
  refine fin v' w' ?_ k1 k2 k4
  simp[execOp,ho,resolve,invoke,builtin,hy,hrun,Result.andThen]
end sound
def zwg (t:Bool) (n:Nat) (l:List AV):Option Res :=
 if (l.take n).length=n∧(t=true∨n=1) then some ⟨[],zm8 t (l.take n),[]⟩ else none
def vals:List AV→Option (List Value)
 | []=>some []
 | .val v::l=>(vals l).map (v::·)
 | _=>none
theorem z8b:∀ (l:List AV) (us:List Value),vals l=some us→l=us.map .val
 | [],us,h=>by simp only[vals,yy1] at h;subst h;rfl
 | x::l,us,h=>by
  cases x<;>simp only[vals,reduceCtorEq] at h
  case val v =>
   cases hr:vals l with
   | none=>rw[hr] at h;cases h
   | some us' =>
    rw[hr] at h
    simp only[Option.map_some,yy1] at h
    subst h
    simp[z8b l us' hr]
def slOf (bk:Nat→Blk):AV→Option Sl
 | .sl s=>some s
 | .own j=>match bk j with
  | .rows _ s=>some s
  | .pub s=>some s
  | _=>none
 | _=>none
structure Env where
 P:Program
 sp:FuncId→Option Spec
 pn:Bool
 lit:Bool
def z6d (V:Env) (op:BinOp) (T:TypeId) (x y:Operand) (u v:Value):Option Res :=
 match op,u,v with
 | .add,.string a,.string b=>some ⟨[a.size+b.size≤9223372036854775807],.s (a++b),[]⟩
 | .quo,.int k a,.int k' b=>if k=k' then some ⟨[b≠0],.val (.int k (k.wrap (a.tdiv b))),[]⟩ else none
 | .rem,.int k a,.int k' b=>if k=k' then some ⟨[b≠0],.val (.int k (a.tmod b)),[]⟩ else none
 | .shl,.int k a,.int _ b=>some ⟨[0≤b],.val (.int k (k.wrap (a*2 ^ (min b.toNat k.bits)))),[]⟩
 | .shr,.int k a,.int _ b=>some ⟨[0≤b],.val (.int k (a.fdiv (2 ^ (min b.toNat k.bits)))),[]⟩
 | _,_,_=>(zi V.P (do eqGuard op T x y u v;binOp op T u v)).map fun r=>⟨[],.val r,[]⟩
def zanl (P:Program) (t:TypeId):Option Sl :=
 match P.info? t with
 | some i =>
  if i.str = "[]int" then some (.ints [])
  else if i.str = "[]string" then some (.strs [])
  else if i.str = "[]uint8" then some (.bytes [])
  else if i.str = "[]api.Power" then some (.powers [])
  else if i.str = "[]api.Packet" then some (.packets [])
  else if i.str = "[]api.Wait" then some (.waits [])
  else if i.str = "[]api.Asked" then some (.asked [])
  else if i.str = "[]api.Ripe" then some (.ripes [])
  else if i.str = "[]api.Deed" then some (.deeds [])
  else if i.str = "[]api.Reply" then some (.replies [])
  else if i.str = "[]suzerainkeep.Order" then some (.orders [])
  else if i.str = "[]suzerainkeep.Carry" then some (.carries [])
  else if i.str = "[][]int" then some (.intss [])
  else none
 | none=>none
def z1t (V:Env) (id:Nat) (bk:Nat→Blk) (t:TypeId) (x y:AV):Option Res :=
 match zn6 V.P t,slOf bk y,bk id with
 | some (E,sz,bytes),some u,.free=>match x with
  | .val (.slice none 0 0)=>match u.empty.app u with
   | some r=>if u.empty.sz=sz then match V.pn with
     | false=>some ⟨[(u.empty.len+u.len)*bytes≤140737488355328],.own id,[(id,.rows E r)]⟩
     | true=>some ⟨[(u.empty.len+u.len)*bytes≤140737488355328],.sl r,[(id,.pub r)]⟩
    else none
   | none=>none
  | .own j=>match bk j with
   | .rows F s=>match s.app u with
    | some r=>if F=E∧s.sz=sz∧j≠id then some ⟨[(s.len+u.len)*bytes≤140737488355328],.own id,[(j,.dead),(id,.rows E r)]⟩ else none
    | none=>none
   | _=>none
  | .win j off len=>match bk j,zanl V.P t with
   | .cells _ cs,some s0=>if s0.sz=sz∧s0.len=0∧((cs.drop off).take (len*s0.sz)).length=len*s0.sz then match zr1 len s0 ((cs.drop off).take (len*s0.sz)) with
     | some (ob,s)=>match s.app u with
      | some r=>some ⟨ob++[(s.len+u.len)*bytes≤140737488355328,0 < u.len],.own id,[(id,.rows E r)]⟩
      | none=>none
     | none=>none
    else none
   | _,_=>none
  | _=>none
 | _,_,_=>none
def zr2 (V:Env) (id:Nat) (g:Operand→AV) (bk:Nat→Blk) (t:TypeId) (len:Nat) (parts:Array (Nat×Operand)):Option Res :=
 match zn6 V.P t,zanl V.P t,bk id with
 | some (E,sz,_),some s,.free=>match (V.P.info? E).bind (·.zero) with
  | some z=>if s.sz=sz∧len*s.sz≤16777216∧s.len=0 then match zn5 (fun i=>some (i*s.sz,s.sz)) ((zth z (len*s.sz)).toList.map .val) (parts.toList.map fun p=>(p.1,g p.2)) with
    | some cs=>match zr1 len s cs with
     | some (ob,r)=>some ⟨ob,.own id,[(id,.rows E r)]⟩
     | none=>none
    | none=>none
   else none
  | none=>none
 | _,_,_=>none
def zayq:Op→Bool
 | .indexAddr _ _ (.const _)=>true
 | .index _ _ (.const _)=>true
 | _=>false
def z4u (V:Env) (id:Nat) (g:Operand→AV) (bk:Nat→Blk) (o:Oper):Option Res :=
 let lit:=zayq o.op||V.lit
 match o.op with
 | .move x=>some ⟨[],g x,[]⟩
 | .assign x=>some ⟨[],g x,[]⟩
 | .alloc T=>match bk id,zi V.P (zeroValue T) with
  | .free,some z=>some ⟨[],.ptr id 0,[(id,.cells T (z.cells.toList.map .val))]⟩
  | _,_=>none
 | .box T x=>match bk id,cellsOf (g x) with
  | .free,some cs=>some ⟨[],.ptr id 0,[(id,.cells T cs)]⟩
  | _,_=>none
 | .build T parts=>match zact V.P T with
  | some (pl,z)=>(zn5 pl (z.cells.toList.map .val) (parts.toList.map fun p=>(p.1,g p.2))).map fun cs=>⟨[],.agg cs,[]⟩
  | none=>none
 | .load T x=>match zi V.P (isAgg T),zi V.P (sizeOf T) with
  | some t,some n=>match g x with
   | .ptr j off=>match bk j with
    | .cells _ cs=>zwg t n (cs.drop off)
    | _=>none
   | .pix j b ix off=>match bk j with
    | .cells _ cs=>match z1x cs ix (b+off) n with
     | some xs=>if t=true∨n=1 then some ⟨[],zm8 t xs,[]⟩ else none
     | none=>none
    | _=>none
   | .rptr j sz off i=>match bk j with
    | .rows _ s=>if sz=s.sz then zwg t n ((s.row i.toNat).drop off) else none
    | _=>none
   | .rpix j sz off i ix=>match bk j with
    | .rows _ s=>match z1x (s.row i.toNat) ix off n with
     | some xs=>if sz=s.sz∧(t=true∨n=1) then some ⟨[],zm8 t xs,[]⟩ else none
     | none=>none
    | _=>none
   | .eptr s k off=>zwg t n ((s.row k).drop off)
   | _=>none
  | _,_=>none
 | .store T x y=>match zi V.P (sizeOf T),g x with
  | some n,.ptr j off=>match bk j with
   | .cells U cs=>if (zag (g y)).all (one bk)=true∧(zag (g y)).length=n∧off+n≤cs.length then some ⟨[],.any,[(j,.cells U (cs.take off++zag (g y)++cs.drop (off+n)))]⟩ else none
   | _=>none
  | some n,.pix j b ix off=>match bk j with
   | .cells U cs=>if (zag (g y)).all (one bk)=true∧(zag (g y)).length=n∧(z1x cs ix (b+off) n).isSome=true then match z6h ix (b+off) (zag (g y)) cs with
     | some cs'=>some ⟨[],.any,[(j,.cells U cs')]⟩
     | none=>none
    else none
   | _=>none
  | some n,.rptr j sz off i=>match bk j with
   | .rows F s=>if sz=s.sz∧(zag (g y)).all (one bk)=true∧(zag (g y)).length=n∧off+n≤s.sz then match s.put i.toNat ((s.row i.toNat).take off++zag (g y)++(s.row i.toNat).drop (off+n)) with
     | some r=>some ⟨[],.any,[(j,.rows F r)]⟩
     | none=>none
    else none
   | _=>none
  | some n,.rpix j sz off i ix=>match bk j with
   | .rows F s=>if sz=s.sz∧0 < n∧(zag (g y)).all (one bk)=true∧(zag (g y)).length=n∧(z1x (s.row i.toNat) ix off n).isSome=true then match z6h ix off (zag (g y)) (s.row i.toNat) with
     | some row=>match s.put i.toNat row with
      | some r=>some ⟨[],.any,[(j,.rows F r)]⟩
      | none=>none
     | none=>none
    else none
   | _=>none
  | _,_=>none
 | .nilCheck x=>if (zvn 0 (g x)).isSome=true then some ⟨[],g x,[]⟩ else none
 | .fieldAddr T x f=>match zr0 V.P T f with
  | some d=>match zvn d.1 (g x) with
   | some c=>some ⟨[],c,[]⟩
   | none=>none
  | none=>none
 | .field T x f=>match zr0 V.P T f,g x with
  | some d,.agg cs=>match zi V.P (isAgg d.2),zi V.P (sizeOf d.2) with
   | some t,some n=>zwg t n (cs.drop d.1)
   | _,_=>none
  | _,_=>none
 | .indexAddr T x y=>match V.P.underlying T,g x,g y with
  | some (.slice E),.sl s,.val (.int _ i)=>match zi V.P (sizeOf E) with
   | some n=>if n=s.sz then some ⟨[0≤i∧i < s.len],.eptr s i.toNat 0,[]⟩ else none
   | none=>none
  | some (.slice E),.own j,.val (.int _ i)=>match bk j with
   | .pub s=>match zi V.P (sizeOf E) with
    | some n=>if n=s.sz then some ⟨[0≤i∧i < s.len],.eptr s i.toNat 0,[]⟩ else none
    | none=>none
   | .rows _ s=>match zi V.P (sizeOf E) with
    | some n=>if n=s.sz then some ⟨[0≤i∧i < (s.len:Int)],.rptr j s.sz 0 i,[]⟩ else none
    | none=>none
   | _=>none
  | some (.array len E),.ptr j off,.val (.int _ i)=>match zi V.P (sizeOf E) with
   | some n=>match lit with
    | true=>if 0≤i∧i < len then some ⟨[],.ptr j (off+i.toNat*n),[]⟩ else none
    | false=>some ⟨[0≤i∧i < len],.pix j off [(len,n,i)] 0,[]⟩
   | none=>none
  | some (.array len E),.pix j b ix off,.val (.int _ i)=>match zi V.P (sizeOf E) with
   | some n=>some ⟨[0≤i∧i < len],.pix j (b+off) (ix++[(len,n,i)]) 0,[]⟩
   | none=>none
  | some (.array len E),.rptr j sz off i0,.val (.int _ i)=>match zi V.P (sizeOf E) with
   | some n=>match lit with
    | true=>if 0≤i∧i < len then some ⟨[],.rptr j sz (off+i.toNat*n) i0,[]⟩ else none
    | false=>some ⟨[0≤i∧i < len],.rpix j sz off i0 [(len,n,i)],[]⟩
   | none=>none
  | _,_,_=>none
 | .index T x y=>match V.P.underlying T,g x,g y with
  | some (.array len E),.agg cs,.val (.int _ i)=>match zi V.P (isAgg E),zi V.P (sizeOf E) with
   | some t,some n=>match lit with
    | true=>if 0≤i∧i < len then zwg t n (cs.drop (i.toNat*n)) else none
    | false=>match z1x cs [(len,n,i)] 0 n with
     | some xs=>if t=true∨n=1 then some ⟨[0≤i∧i < len],zm8 t xs,[]⟩ else none
     | none=>none
   | _,_=>none
  | some .string,.val (.string s),.val (.int _ i)=>some ⟨[0≤i∧i < (s.size:Int)],.val (.int .u8 ((s.data.toList.getD i.toNat 0).toNat:Nat)),[]⟩
  | _,_,_=>none
 | .slice T x lo hi none=>match V.P.underlying T,g x with
  | some (.array (n+1) E),.ptr j off=>match lo,hi,zi V.P (sizeOf E) with
   | none,none,some _=>some ⟨[],.win j off (n+1),[]⟩
   | _,_,_=>none
  | some .string,.val (.string s)=>match zzf 0 (lo.map g),zzf s.size (hi.map g) with
   | some l,some r=>some ⟨[0≤l∧l≤r∧r≤(s.size:Int)],.val (.string (s.extract l.toNat r.toNat)),[]⟩
   | _,_=>none
  | some (.slice E),.sl s=>match zi V.P (sizeOf E),zzf 0 (lo.map g),zzf s.len (hi.map g) with
   | some n,some l,some r=>if n=s.sz then some ⟨[0≤l∧l≤r∧r≤(s.len:Int)],.sl (s.cut l.toNat r.toNat),[]⟩ else none
   | _,_,_=>none
  | some (.slice E),.own j=>match bk j,bk id,lo,zi V.P (sizeOf E) with
   | .rows F s,.free,none,some n=>match zzf s.len (hi.map g) with
    | some r=>if n=s.sz∧j≠id then some ⟨[0≤r∧r≤(s.len:Int)],.own id,[(j,.dead),(id,.rows F (s.cut 0 r.toNat))]⟩ else none
    | none=>none
   | _,_,_,_=>none
  | _,_=>none
 | .extract x i=>match g x with
  | .tup cs=>match cs[i]? with
   | some c=>some ⟨[],c,[]⟩
   | none=>none
  | _=>none
 | .binOp op T x y _=>match g x,g y with
  | .val u,.val v=>z6d V op T x y u v
  | .agg xs,.agg ys=>if (op=.eql∨op=.neq)∧V.P.eqGuardType V.P.depth T=false then
    match eqT V.P 8 T (.agg xs) (.agg ys) with
    | some b=>some ⟨[],.b (if op=.eql then b else !b),[]⟩
    | none=>none
   else none
  | .sl s,.val (.slice none 0 0)=>match V.P.underlying T,bk id with
   | some (.slice _),.free=>if op=.eql then some ⟨[],.own id,[(id,.bit (s.len=0) True)]⟩ else if op=.neq then some ⟨[],.own id,[(id,.bit True (s.len=0))]⟩ else none
   | _,_=>none
  | .ptr _ _,.val (.pointer none)=>match V.P.underlying T with
   | some (.pointer _)=>if op=.eql then some ⟨[],.b false,[]⟩ else if op=.neq then some ⟨[],.b true,[]⟩ else none
   | _=>none
  | _,_=>none
 | .unOp op _ x=>match g x with
  | .val u=>(zi V.P (Op.unary op u)).map fun r=>⟨[],.val r,[]⟩
  | _=>none
 | .convert T U x=>match g x with
  | .val (.string s)=>match V.P.underlying T,V.P.underlying U with
   | some .string,some (.slice E)=>match V.P.underlying E with
    | some (.int .u8)=>some ⟨[s.size≤9223372036854775807],.sl (.bytes s.data.toList),[]⟩
    | _=>none
   | _,_=>none
  | .sl (.bytes l)=>match V.P.underlying T,V.P.underlying U with
   | some (.slice E),some .string=>match V.P.underlying E with
    | some (.int .u8)=>some ⟨[],.val (.string ⟨l.toArray⟩),[]⟩
    | _=>none
   | _,_=>none
  | .val u=>(zi V.P (convert T U u)).map fun r=>⟨[],.val r,[]⟩
  | _=>none
 | .buildSlice t len parts=>zr2 V id g bk t len parts
 | .makeFunc (.func f) ⟨[]⟩ caps=>some ⟨[],.fn f (caps.toList.map g),[]⟩
 | .makeInterface T x=>match V.P.underlying T,g x with
  | some (.slice _),.own j=>some ⟨[],.iface T j,[]⟩
  | _,_=>none
 | .makeMap T none=>match bk id,zapc V.P T with
  | .free,some m=>some ⟨[],.own id,[(id,.maps m)]⟩
  | _,_=>none
 | .lookup T x y ok=>match V.P.underlying T,g x,g y with
  | some (.map K E),.own j,.val (.int .i64 n)=>match bk j,V.P.underlying K,zi V.P (zeroValue E) with
   | .maps m,some (.int .i64),some z=>if m.zok z=true then some ⟨[],if ok then .tup [m.val n,.b (m.has n)] else m.val n,[]⟩ else none
   | _,_,_=>none
  | _,_,_=>none
 | .mapUpdate T x y c=>match V.P.underlying T,g x,g y with
  | some (.map K _),.own j,.val (.int .i64 n)=>match bk j,V.P.underlying K with
   | .maps m,some (.int .i64)=>match m.put n (g c) with
    | some m'=>some ⟨[],.any,[(j,.maps m')]⟩
    | none=>none
   | _,_=>none
  | _,_,_=>none
 | .call c=>match c with
  | { callee:=.builtin b,args:=xs,argTypes:=ats }=>match vals (xs.toList.map g) with
   | some us=>match zi V.P (builtin b ats o.type (xs.map fun | .const _=>true | _=>false) us.toArray) with
    | some (.value r)=>some ⟨[],.val r,[]⟩
    | _=>none
   | none=>match b,xs with
    | .len,⟨[x]⟩=>match slOf bk (g x),ats[0]? with
     | some s,some T=>match V.P.underlying T with
      | some (.slice _)=>some ⟨[],.i s.len,[]⟩
      | _=>none
     | _,_=>none
    | .append,⟨[x,y]⟩=>match ats with
     | ⟨[t,t']⟩=>if t'=t then z1t V id bk t (g x) (g y) else none
     | _=>none
    | _,_=>none
  | { callee:=.value y,args:=xs,.. }=>match g y with
   | .fn f caps=>if z6t V.P f=true then match V.sp f with
     | some F=>F (xs.toList.map g++caps) bk id
     | none=>none
    else none
   | _=>none
  | _=>none
 | _=>none
def zaaw (V:Env) (id:Nat) (g:Operand→AV) (bk:Nat→Blk) (o:Oper):Option Res :=
 match o.op with
 | .load T x=>match g x with
  | .nst j (.el i off)=>match bk j,zi V.P (isAgg T),zi V.P (sizeOf T) with
   | .nest _ _ _ _,some false,some 1=>if off=4 then some ⟨[],.nst j (.set i),[]⟩ else none
   | _,_,_=>none
  | _=>none
 | .store T x y=>match g x,g y,zi V.P (sizeOf T) with
  | .nst j (.el _ off),.val (.int .i64 _),some 1=>match bk j with
   | .nest E F _ l=>if off < 4 then some ⟨[],.any,[(j,.nest E F false l)]⟩ else none
   | _=>none
  | .nst j (.ce _ _ off),.val (.int .i64 _),some 1=>match bk j with
   | .nest E F _ l=>if off < 2 then some ⟨[],.any,[(j,.nest E F false l)]⟩ else none
   | _=>none
  | _,_,_=>none
 | .indexAddr T x y=>match V.P.underlying T,g x,g y with
  | some (.slice Q),.nst j .whole,.val (.int _ i)=>match bk j,zi V.P (sizeOf Q) with
   | .nest _ _ _ l,some n=>if n=6 then some ⟨[0≤i∧i < (l.length:Int)],.nst j (.el i 0),[]⟩ else none
   | _,_=>none
  | some (.slice Q),.nst j (.set i),.val (.int _ k)=>match bk j,zi V.P (sizeOf Q) with
   | .nest _ _ _ l,some n=>if n=2 then some ⟨[0≤k∧k < ((l.getD i.toNat default).Set.length:Int)],.nst j (.ce i k 0),[]⟩ else none
   | _,_=>none
  | _,_,_=>none
 | .buildSlice t 1 ⟨[(0,x)]⟩=>match g x with
  | .agg [_,_,_,_,.own js,_]=>match zn6 V.P t,bk js,bk id with
   | some (E,sz,_),.rows F (.powers s),.free=>match (V.P.info? E).bind (·.zero) with
    | some z=>match zn5 (fun i=>some (i*6,6)) ((zth z (1*6)).toList.map .val) [(0,g x)] with
     | some [.val (.int .i64 a0),.val (.int .i64 a1),.val (.int .i64 a2),.val (.int .i64 a3),.own js',c5]=>match aIs c5 with
      | some d=>if sz=6∧js'=js∧js≠id then some ⟨[],.nst id .whole,[(js,.dead),(id,.nest E F true [⟨a0,a1,a2,a3,s,d⟩])]⟩ else none
      | none=>none
     | _=>none
    | none=>none
   | _,_,_=>none
  | _=>none
 | .call c=>match c with
  | { callee:=.builtin .len,args:=⟨[x]⟩,argTypes:=ats }=>match g x,ats[0]? with
   | .nst j .whole,some T=>match V.P.underlying T,bk j with
    | some (.slice _),.nest _ _ _ l=>some ⟨[],.i l.length,[]⟩
    | _,_=>none
   | .nst j (.set i),some T=>match V.P.underlying T,bk j with
    | some (.slice _),.nest _ _ _ l=>some ⟨[],.i ((l.getD i.toNat default).Set.length:Nat),[]⟩
    | _,_=>none
   | _,_=>none
  | { callee:=.builtin .append,args:=⟨[x,y]⟩,argTypes:=⟨[t,t']⟩ }=>match g y with
   | .nst jy .whole=>match zn6 V.P t,bk jy,bk id with
    | some (E,sz,bytes),.nest E' F exy ly,.free=>if t'=t∧E'=E∧sz=6∧jy≠id then match g x with
      | .val (.slice none 0 0)=>some ⟨[(0+ly.length)*bytes≤140737488355328],.nst id .whole,[(jy,.dead),(id,.nest E F exy ly)]⟩
      | .nst jx .whole=>match bk jx with
       | .nest E'' F'' exx lx=>if E''=E∧F''=F∧jx≠id∧jx≠jy then some ⟨[(lx.length+ly.length)*bytes≤140737488355328],.nst id .whole,[(jx,.dead),(jy,.dead),(id,.nest E F (exx&&exy) (lx++ly))]⟩ else none
       | _=>none
      | _=>none
     else none
    | _,_,_=>none
   | _=>none
  | _=>none
 | _=>none
def zaax (V:Env) (id:Nat) (g:Operand→AV) (bk:Nat→Blk) (o:Oper):Option Res :=
 match z4u V id g bk o with
 | some r=>some r
 | none=>zaaw V id g bk o
def Env.Ok (V:Env):Prop:=∀ f F,V.sp f=some F→zg V.P f F
section sound
variable {V:Env} (hV:V.Ok) {G:Gl} {blks:List Blk} {nu:Nat→Option Value} {w:World} (h:MInv G blks nu w)
include h
theorem zacz {j:Nat} {s:Sl} {v:Value} (hb:blks.getD j .dead=.pub s) (hv:Rd (cx G blks nu w) (.own j) v):Rd (cx G blks nu w) (.sl s) v:=by
 cases hv with
 | own hn =>
  have hk:=h.ok j
  rw[hb] at hk
  obtain ⟨u,e1,e2⟩:=hk
  have:=hn.symm.trans e1
  simp at this;subst this
  exact e2
omit h in
theorem zdp {bk:Nat→Blk} (hbk:∀ j,bk j=blks.getD j .dead∨bk j=.dead) {j:Nat} {x:Blk} (hx:bk j=x) (hd:x≠.dead):blks.getD j .dead=x:=by
 rcases hbk j with e | e
 ·rw[← e];exact hx
 ·exact absurd (hx.symm.trans e) hd
omit h in
theorem zac0 {bk:Nat→Blk} (hbk:∀ j,bk j=blks.getD j .dead∨bk j=.dead) {l:List AV} (hl:l.all (one bk)=true):l.all (one fun j=>blks.getD j .dead)=true:=by
 rw[List.all_eq_true] at hl ⊢
 intro x hx
 have h1:=hl x hx
 cases x<;>try exact h1
 case own j =>
  simp only[one] at h1 ⊢
  cases hb:bk j<;>simp only[hb,Bool.false_eq_true] at h1
  all_goals rw[zdp hbk hb (by simp)]
 case nst j r =>
  cases r<;>simp only[one,Bool.false_eq_true] at h1 ⊢
  cases hb:bk j<;>simp only[hb,Bool.false_eq_true] at h1
  rw[zdp hbk hb (by simp)]
omit h in
theorem zac1 {bk:Nat→Blk} (hbk:∀ j,bk j=blks.getD j .dead∨bk j=.dead) {x:AV} {s:Sl} (hs:slOf bk x=some s) :
  x=.sl s∨∃ j F,x=.own j∧(blks.getD j .dead=.rows F s∨blks.getD j .dead=.pub s):=by
 cases x<;>simp only[slOf,yy1,reduceCtorEq] at hs
 case sl s'=>subst hs;exact .inl rfl
 case own j =>
  cases hb:bk j<;>simp only[hb,yy1,reduceCtorEq] at hs
  case rows F s'=>subst hs;exact .inr ⟨j,F,rfl,.inl (zdp hbk hb (by simp))⟩
  case pub s'=>subst hs;exact .inr ⟨j,0,rfl,.inr (zdp hbk hb (by simp))⟩
theorem z31 {o:Oper} {op:BinOp} {T U:TypeId} {x y:Operand} {e:Operand→Value} {u v:Value} {r:Res} (ho:o.op=.binOp op T x y U)
  (hx:Rd (cx G blks nu w) (.val u) (e x)) (hy:Rd (cx G blks nu w) (.val v) (e y)) (hr:z6d V op T x y u v=some r) (hobl:zuz r.obl):Does V.P o e w (zf1 G blks nu w r):=by
 have dflt:((zi V.P (do eqGuard op T x y u v;binOp op T u v)).map fun r=>(⟨[],.val r,[]⟩:Res))=some r→Does V.P o e w (zf1 G blks nu w r):=by
  intro hr
  cases hp:zi V.P (do eqGuard op T x y u v;binOp op T u v) with
  | none=>rw[hp] at hr;cases hr
  | some q =>
   rw[hp] at hr
   simp only[Option.map_some,yy1] at hr
   subst hr
   exact zaew h ho hx hy hp
 unfold z6d at hr
 split at hr
 ·simp only[yy1] at hr
  subst hr
  exact zaa3 h ho hx hy hobl.1
 ·split at hr
  ·rename_i hk
   subst hk
   simp only[yy1] at hr;subst hr
   exact zakp h ho hx hy hobl.1 _
  ·cases hr
 ·split at hr
  ·rename_i hk
   subst hk
   simp only[yy1] at hr;subst hr
   exact zakq h ho hx hy hobl.1 _
  ·cases hr
 ·simp only[yy1] at hr;subst hr
  have:=z4s (P:=V.P) h (.inl rfl) ho hx hy hobl.1
  simp only[if_true] at this
  exact this _
 ·simp only[yy1] at hr;subst hr
  have:=z4s (P:=V.P) h (.inr rfl) ho hx hy hobl.1
  simp only[reduceCtorEq,if_false] at this
  exact this _
 ·exact dflt hr
omit h in
theorem zl7 {t:Bool} {n:Nat} {l:List AV} {r:Res} (hr:zwg t n l=some r):(l.take n).length=n∧(t=false→n=1)∧r=⟨[],zm8 t (l.take n),[]⟩:=by
 unfold zwg at hr
 split at hr
 ·rename_i hc
  refine ⟨hc.1,fun ht=>hc.2.resolve_left (by simp[ht]),by simpa using hr.symm⟩
 ·cases hr
theorem zask {bk:Nat→Blk} (hbk:∀ j,bk j=blks.getD j .dead∨bk j=.dead) {x:AV} {u:Sl} {v:Value} (hs:slOf bk x=some u) (hv:Rd (cx G blks nu w) x v):Src (cx G blks nu w) u v:=by
 rcases zac1 hbk hs with rfl | ⟨j,F,rfl,hb | hb⟩
 ·exact zanh hv
 ·cases hv with
  | own hn =>
   have hk:=h.ok j
   rw[hb] at hk
   obtain ⟨u',vs,e1,e2,e3,_⟩:=hk
   have:=hn.symm.trans e1
   simp only[yy1] at this;subst this
   exact zaj8 e2 e3
 ·exact zanh (zacz h hb hv)
omit hV h in
theorem zaki {P:Program} {o:Oper} {e:Operand→Value} {w:World} {Q Q':Value→World→Prop} (hd:Does P o e w Q) (hq:∀ v w',Q v w'→Q' v w'):Does P o e w Q':=by
 unfold Does at hd ⊢
 split at hd
 all_goals first
  | exact hq _ _ hd
  | exact hd.mono fun x w'' ⟨v,h1,h2⟩=>⟨v,h1,hq _ _ h2⟩
  | exact hd
omit hV h in
theorem zasl {blks:List Blk} {nu:Nat→Option Value} {w:World} (hm:MInv G blks nu w) {j:Nat} {E:TypeId} {s:Sl} (hb:blks.getD j .dead=.rows E s) :
  MInv G (blks.set j (.pub s)) nu w∧(cx G blks nu w).Le (cx G (blks.set j (.pub s)) nu w):=by
 have hjl:j < blks.length:=by
  rcases Nat.lt_or_ge j blks.length with h1 | h1
  ·exact h1
  ·rw[yy0,List.getElem?_eq_none h1] at hb;cases hb
 have hself:(blks.set j (.pub s)).getD j .dead=.pub s:=zp hjl
 have hoth:∀ i,i≠j→(blks.set j (.pub s)).getD i .dead=blks.getD i .dead:=fun i hij=>getD_set_ne (fun e=>hij e.symm)
 have hlive:∀ i,((blks.set j (.pub s)).getD i .dead).live=true→i≠j∧(blks.getD i .dead).live=true:=by
  intro i hl
  by_cases hij:i=j
  ·subst hij;rw[hself] at hl;cases hl
  ·rw[hoth i hij] at hl;exact ⟨hij,hl⟩
 have hL:∀ b,zpm (blks.set j (.pub s)) nu b→zpm blks nu b:=by
  rintro b ⟨i,v,h1,h2,h3⟩
  exact ⟨i,v,(hlive i h1).2,h2,h3⟩
 have hcell:∀ x v,¬ (cx G blks nu w).L x.block→(cx G blks nu w).w.cell? x=some v→(cx G (blks.set j (.pub s)) nu w).w.cell? x=some v∧¬ (cx G (blks.set j (.pub s)) nu w).L x.block:=by
  intro x v hl hc
  exact ⟨hc,fun h=>hl (h.imp id (hL _))⟩
 have hle:(cx G blks nu w).Le (cx G (blks.set j (.pub s)) nu w):=⟨fun a v h1 h2=>(hcell a v h1 h2).1,fun a v h1 h2=>(hcell a v h1 h2).2,fun _ _ h=>h⟩
 have hok:=hm.ok j
 rw[hb] at hok
 obtain ⟨v0,vs,e1,e2,e3,e4⟩:=hok
 have hj:Rd (cx G (blks.set j (.pub s)) nu w) (.sl s) v0:=by
  rcases e2.2 with ⟨rfl,h0⟩ | ⟨g,cap,cur,rfl,hbase,hg,hnc,hcm,hcs,htake⟩
  ·exact .slnil h0
  ·refine .sl ⟨g,0,none⟩ cap (fun k c=>vs.getD (k*s.sz+c) undef) e4 hnc (fun k c hk hc=>?_) (fun _=>?_) (fun k c hk hc=>(e3 k c hk hc).mono hle)
   ·have hlt:k*s.sz+c < vs.length:=by
     rw[e2.1]
     calc k*s.sz+c < k*s.sz+s.sz:=by omega
      _=(k+1)*s.sz:=by rw[Nat.add_mul,Nat.one_mul]
      _≤s.len*s.sz:=Nat.mul_le_mul_right _ hk
    exact e2.cells (g:=g) rfl _ _ (by rw[yy0,yy3 hlt];rfl)
   ·rintro (h0 | ⟨i,u,h1,h2,h3⟩)
    ·rcases (hm.low j _ g (by rw[hb];rfl) e1 (hasB_sl.2 rfl)).2 with h1 | h1
     ·have:=G.lt g h0
      omega
     ·exact G.dis g h1 h0
    ·obtain ⟨h4,h5⟩:=hlive i h1
     exact hm.apart i j u _ g h4 h5 (by rw[hb];rfl) h2 e1 h3 (hasB_sl.2 rfl)
 refine ⟨⟨fun i=>?_,fun i i' v v' b hne h1 h2=>hm.apart i i' v v' b hne (hlive i h1).2 (hlive i' h2).2,fun i v b h1=>hm.low i v b (hlive i h1).2,hm.os,hm.tape,hm.output,hm.size,hm.block,hm.fix⟩,hle⟩
 by_cases hij:i=j
 ·subst hij;rw[hself];exact ⟨v0,e1,hj⟩
 ·rw[hoth i hij]
  exact BlkOk.mono hle (hm.ok i) (fun _ _ _ _ _=>rfl) rfl
omit hV h in
theorem zakj {blks:List Blk} {nu:Nat→Option Value} {w:World} {id:Nat} {E:TypeId} {r:Sl} {ob:List Prop} {v:Value} {w':World} (hid:id < blks.length) (hp:zf1 G blks nu w ⟨ob,.own id,[(id,.rows E r)]⟩ v w') :
  zf1 G blks nu w ⟨ob,.sl r,[(id,.pub r)]⟩ v w':=by
 obtain ⟨nu',le,m,rd⟩:=hp
 obtain ⟨m1,le1⟩:=zasl m (j:=id) (E:=E) (s:=r) (by simp only[upd];exact zp hid)
 have e:(upd blks [(id,.rows E r)]).set id (.pub r)=upd blks [(id,.pub r)]:=by simp[upd]
 rw[e] at m1 le1
 exact ⟨nu',le.trans le1,m1,zacz m1 (j:=id) (by simp only[upd];exact zp hid) (rd.mono le1)⟩
theorem z1u {id:Nat} {bk:Nat→Blk} {o:Oper} {x y:Operand} {t:TypeId} {g:Operand→AV} {e:Operand→Value} {r:Res} (hbk:∀ j,bk j=blks.getD j .dead∨bk j=.dead) (hg:∀ x,Rd (cx G blks nu w) (g x) (e x))
  (ho:o.op=.call { callee:=.builtin .append,args:=⟨[x,y]⟩,argTypes:=⟨[t,t]⟩ }) (hr:z1t V id bk t (g x) (g y)=some r) (hobl:zuz r.obl):Does V.P o e w (zf1 G blks nu w r):=by
 unfold z1t at hr
 split at hr
 ·rename_i E sz bytes u hi hu hf
  have hfree:=zdp hbk hf (by simp)
  have hsrc:=zask h hbk hu (hg y)
  split at hr
  ·rename_i hx
   split at hr
   ·rename_i r' happ
    split at hr
    ·rename_i hsz
     subst hsz
     have hnil:e x=.slice none 0 0:=by
      have:=hg x
      rw[hx] at this
      generalize e x=a at this
      cases this;rfl
     have h0:u.empty.len=0:=by cases u<;>rfl
     have hob:(u.empty.len+u.len)*bytes≤140737488355328:=by
      split at hr
      ·simp only[yy1] at hr;subst hr;exact hobl.1
      ·simp only[yy1] at hr;subst hr;exact hobl.1
     have key:=z1q (blks1:=blks) (old:=none) h ho hi happ (vs:=[]) (by rw[hnil,h0];exact World.ownsRow_nil w _ _ _) (fun k c hk=>by omega) (fun b hb=>by rw[hnil] at hb;cases hb) hsrc hfree rfl
      (fun _ _ _=>rfl) (fun _ h=>by cases h) hob
     split at hr
     ·simp only[yy1] at hr;subst hr;exact key
     ·simp only[yy1] at hr;subst hr
      exact zaki key fun v w' hp=>zakj (by
       rcases Nat.lt_or_ge id blks.length with h1 | h1
       ·exact h1
       ·rw[yy0,List.getElem?_eq_none h1] at hfree;cases hfree) hp
    ·cases hr
   ·cases hr
  ·rename_i j hx
   split at hr
   ·rename_i F s hb
    have hbl:=zdp hbk hb (by simp)
    split at hr
    ·rename_i r' happ
     split at hr
     ·rename_i hc
      obtain ⟨rfl,rfl,hne⟩:=hc
      simp only[yy1] at hr;subst hr
      have hk:=h.ok j
      rw[hbl] at hk
      obtain ⟨v,vs,e1,e2,e3,_⟩:=hk
      have hv:e x=v:=by
       have:=hg x
       rw[hx] at this
       cases this with
       | own hn=>exact Option.some.inj (hn.symm.trans e1)
      subst hv
      have hj:j < blks.length:=by
       rcases Nat.lt_or_ge j blks.length with h1 | h1
       ·exact h1
       ·rw[yy0,List.getElem?_eq_none h1] at hbl;cases hbl
      exact z1q (blks1:=blks.set j .dead) (old:=some j) h ho hi happ e2 e3 (fun b hb=>⟨j,rfl,e1⟩) hsrc hfree (by simp)
       (fun i _ hi=>getD_set_ne (fun q=>hi (by rw[q]))) (fun j' hj'=>by
        simp only[yy1] at hj';subst hj'
        exact ⟨hne,zp hj,by rw[hbl];rfl⟩) hobl.1
     ·cases hr
    ·cases hr
   ·cases hr
  ·rename_i j off len hx
   split at hr
   ·rename_i U cs s0 hb hk
    have hbl:=zdp hbk hb (by simp)
    split at hr
    ·rename_i hc
     obtain ⟨hsz,h0,hlen⟩:=hc
     split at hr
     ·rename_i ob s hp
      split at hr
      ·rename_i r' happ
       simp only[yy1] at hr;subst hr
       obtain ⟨o1,o2⟩:=allP_append.1 hobl
       subst hsz
       exact z30 h ho hi h0 (hx ▸ hg x) hbl hlen hp o1 happ hsrc o2.2.1 hfree o2.1
      ·cases hr
     ·cases hr
    ·cases hr
   ·cases hr
  ·cases hr
 ·cases hr
theorem zwh {id:Nat} {bk:Nat→Blk} {o:Oper} {t:TypeId} {len:Nat} {parts:Array (Nat×Operand)} {g:Operand→AV} {e:Operand→Value} {r:Res} (hbk:∀ j,bk j=blks.getD j .dead∨bk j=.dead)
  (hg:∀ x,Rd (cx G blks nu w) (g x) (e x)) (ho:o.op=.buildSlice t len parts) (hr:zr2 V id g bk t len parts=some r) (hobl:zuz r.obl):Does V.P o e w (zf1 G blks nu w r):=by
 unfold zr2 at hr
 split at hr
 ·rename_i E sz bytes s hi hk hf
  have hfree:=zdp hbk hf (by simp)
  split at hr
  ·rename_i z hz
   split at hr
   ·rename_i hc
    obtain ⟨rfl,hsmall,h0⟩:=hc
    split at hr
    ·rename_i cs hfill
     split at hr
     ·rename_i ob r' hp
      simp only[yy1] at hr;subst hr
      exact z1r h ho hg hi hz h0 hfill hp hobl hsmall hfree
     ·cases hr
    ·cases hr
   ·cases hr
  ·cases hr
 ·cases hr
theorem z4v {P:Program} {o:Oper} {op:BinOp} {T U E:TypeId} {x y:Operand} {e:Operand→Value} {s:Sl} {id:Nat} {p q:Prop} (ho:o.op=.binOp op T x y U)
  (hop:(op=.eql∧p=(s.len=0)∧q=True)∨(op=.neq∧p=True∧q=(s.len=0))) (hT:P.underlying T=some (.slice E))
  (hx:Rd (cx G blks nu w) (.sl s) (e x)) (hy:Rd (cx G blks nu w) (.val (.slice none 0 0)) (e y)) (hf:blks.getD id .dead=.free):Does P o e w (zf1 G blks nu w ⟨[],.own id,[(id,.bit p q)]⟩):=by
 have hrun:∃ b,(execOp e o).run P w=.ok (.value (.bool b)) w∧(b=true→p)∧(b=false→q):=by
  generalize hv:e x=a at hx
  generalize hw:e y=c at hy
  cases hy
  cases hx with
  | slnil h0 =>
   rcases hop with ⟨rfl,rfl,rfl⟩ | ⟨rfl,rfl,rfl⟩
   ·exact ⟨true,by simp[execOp,ho,hv,hw,eqGuard,binOp,run_equal_slice_nil w T E _ _ _ hT],fun _=>h0,fun _=>trivial⟩
   ·exact ⟨false,by simp[execOp,ho,hv,hw,eqGuard,binOp,run_equal_slice_nil w T E _ _ _ hT],fun _=>trivial,fun _=>h0⟩
  | sl a cap g' hm hc hcell hL hrd =>
   rcases hop with ⟨rfl,rfl,rfl⟩ | ⟨rfl,rfl,rfl⟩
   ·exact ⟨false,by simp[execOp,ho,hv,hw,eqGuard,binOp,run_equal_slice_nil w T E _ _ _ hT],(fun h=>by cases h),fun _=>trivial⟩
   ·exact ⟨true,by simp[execOp,ho,hv,hw,eqGuard,binOp,run_equal_slice_nil w T E _ _ _ hT],fun _=>trivial,(fun h=>by cases h)⟩
 obtain ⟨b,hrun,hbp⟩:=hrun
 have hd:nu id=none:=by have:=h.ok id;rw[hf] at this;exact this
 have hid:id < blks.length:=by
  rcases Nat.lt_or_ge id blks.length with h3 | h3
  ·exact h3
  ·rw[yy0,List.getElem?_eq_none h3] at hf;cases hf
 have:=h.step (w':=w) (blks':=blks.set id (.bit p q)) (nu':=fun i=>if i=id then some (.bool b) else nu i) (fun i=>i=id)
  (fun i v hi=>by
   by_cases e:i=id
   ·rw[e,hd] at hi;cases hi
   ·simp only[e,if_false];exact hi)
  (fun _ _ _=>rfl) (Nat.le_refl _) rfl rfl rfl (fun i hi=>getD_set_ne (fun e=>hi e.symm)) (fun i hi=>by simp[hi])
  (fun hle i hi=>by
   subst hi
   rw[zp hid]
   exact ⟨b,by simp[cx],hbp⟩)
  (fun i v b' hi hl hv hb=>by subst hi;rw[zp hid] at hl;cases hl)
  (fun i i' v v' b' hne hi hi'=>(hne (hi.trans hi'.symm)).elim)
 exact Does.value hrun ⟨_,this.1,this.2,.own (by simp[cx])⟩
theorem z1v {P:Program} {o:Oper} {op:BinOp} {T U E:TypeId} {x y:Operand} {e:Operand→Value} {j off:Nat} {b:Bool} (ho:o.op=.binOp op T x y U)
  (hop:(op=.eql∧b=false)∨(op=.neq∧b=true)) (hT:P.underlying T=some (.pointer E))
  (hx:Rd (cx G blks nu w) (.ptr j off) (e x)) (hy:Rd (cx G blks nu w) (.val (.pointer none)) (e y)):Does P o e w (zf1 G blks nu w ⟨[],.b b,[]⟩):=by
 have hT':P.underlying T=some (.pointer (P.pointee T)):=by unfold Program.pointee;rw[hT]
 have hrun:(execOp e o).run P w=.ok (.value (.bool b)) w:=by
  generalize hv:e x=a at hx
  generalize hw:e y=c at hy
  cases hy
  cases hx with
  | ptr h0 =>
   rcases hop with ⟨rfl,rfl⟩ | ⟨rfl,rfl⟩
   ·simp[execOp,ho,hv,hw,eqGuard,run_eql_pointer_nil w T _ hT']
   ·simp[execOp,ho,hv,hw,eqGuard,run_neq_pointer_nil w T _ hT']
 exact Does.value hrun (zam h .val)
include hV in
theorem z8c {id:Nat} {g:Operand→AV} {o:Oper} {e:Operand→Value} {r:Res} {bk:Nat→Blk} (hbk:∀ j,bk j=blks.getD j .dead∨bk j=.dead) (hg:∀ x,Rd (cx G blks nu w) (g x) (e x))
  (hr:z4u V id g bk o=some r) (hobl:zuz r.obl):Does V.P o e w (zf1 G blks nu w r):=by
 unfold z4u at hr
 simp only at hr
 split at hr
 ·rename_i x ho
  simp only[yy1] at hr;subst hr
  exact z75 h (.inl ho) (hg x)
 ·rename_i x ho
  simp only[yy1] at hr;subst hr
  exact z75 h (.inr ho) (hg x)
 ·rename_i T ho
  split at hr
  ·rename_i z hf hz
   simp only[yy1] at hr;subst hr
   exact zael h ho hz (zdp hbk hf (by simp))
  ·cases hr
 ·rename_i T x ho
  split at hr
  ·rename_i cs hf hc
   simp only[yy1] at hr;subst hr
   exact zaj6 h ho (hg x) hc (zdp hbk hf (by simp))
  ·cases hr
 ·rename_i T parts ho
  split at hr
  ·rename_i pl z hp
   cases hc:zn5 pl (z.cells.toList.map .val) (parts.toList.map fun p=>(p.1,g p.2)) with
   | none=>rw[hc] at hr;cases hr
   | some cs =>
    rw[hc] at hr
    simp only[Option.map_some,yy1] at hr;subst hr
    exact zaeo h ho hg hp hc
  ·cases hr
 ·rename_i T x ho
  split at hr
  ·rename_i t n ht hn
   split at hr
   ·rename_i j off hgx
    split at hr
    ·rename_i U cs hb
     obtain ⟨h1,h2,rfl⟩:=zl7 hr
     exact z52 h ho (hgx ▸ hg x) (zdp hbk hb (by simp)) ht hn h2 h1
    ·cases hr
   ·rename_i j b ix off hgx
    split at hr
    ·rename_i U cs hb
     split at hr
     ·rename_i xs hxs
      split at hr
      ·rename_i hc
       simp only[yy1] at hr;subst hr
       exact z6k h ho (hgx ▸ hg x) (zdp hbk hb (by simp)) ht hn (fun ht=>hc.resolve_left (by simp[ht])) hxs
      ·cases hr
     ·cases hr
    ·cases hr
   ·rename_i j sz off i hgx
    split at hr
    ·rename_i F s hb
     split at hr
     ·rename_i hsz
      obtain ⟨h1,h2,rfl⟩:=zl7 hr
      exact z4b h ho (hgx ▸ hg x) (zdp hbk hb (by simp)) hsz ht hn h2 h1
     ·cases hr
    ·cases hr
   ·rename_i j sz off i ix hgx
    split at hr
    ·rename_i F s hb
     split at hr
     ·rename_i xs hxs
      split at hr
      ·rename_i hc
       simp only[yy1] at hr;subst hr
       exact z4c h ho (hgx ▸ hg x) (zdp hbk hb (by simp)) hc.1 ht hn (fun ht=>hc.2.resolve_left (by simp[ht])) hxs
      ·cases hr
     ·cases hr
    ·cases hr
   ·rename_i s k off hgx
    obtain ⟨h1,h2,rfl⟩:=zl7 hr
    exact z3y h ho (hgx ▸ hg x) ht hn h2 h1
   ·cases hr
  ·cases hr
 ·rename_i T x y ho
  split at hr
  ·rename_i n j off hn hgx
   split at hr
   ·rename_i U cs hb
    split at hr
    ·rename_i hc
     simp only[yy1] at hr;subst hr
     exact zaem h ho (hgx ▸ hg x) (hg y) (zdp hbk hb (by simp)) hn (zac0 hbk hc.1) hc.2.1 hc.2.2
    ·cases hr
   ·cases hr
  ·rename_i n j b ix off hn hgx
   split at hr
   ·rename_i U cs hb
    split at hr
    ·rename_i hc
     split at hr
     ·rename_i cs' hp
      simp only[yy1] at hr;subst hr
      exact z34 h ho (hgx ▸ hg x) (hg y) (zdp hbk hb (by simp)) hn (zac0 hbk hc.1) hc.2.1 hc.2.2 hp
     ·cases hr
    ·cases hr
   ·cases hr
  ·rename_i n j sz off i hn hgx
   split at hr
   ·rename_i F s hb
    split at hr
    ·rename_i hc
     split at hr
     ·rename_i r' hp
      simp only[yy1] at hr;subst hr
      exact z2a h ho (hgx ▸ hg x) (hg y) (zdp hbk hb (by simp)) hc.1 hn (zac0 hbk hc.2.1) hc.2.2.1 hc.2.2.2 hp
     ·cases hr
    ·cases hr
   ·cases hr
  ·rename_i n j sz off i ix hn hgx
   split at hr
   ·rename_i F s hb
    split at hr
    ·rename_i hc
     split at hr
     ·rename_i row hq
      split at hr
      ·rename_i r' hp
       simp only[yy1] at hr;subst hr
       exact z2b h ho (hgx ▸ hg x) (hg y) (zdp hbk hb (by simp)) hc.1 hn (zac0 hbk hc.2.2.1) hc.2.2.2.1 hc.2.1 hc.2.2.2.2 hq hp
      ·cases hr
     ·cases hr
    ·cases hr
   ·cases hr
  ·cases hr
 ·rename_i x ho
  split at hr
  ·rename_i hc
   simp only[yy1] at hr;subst hr
   exact z53 h ho (hg x) hc
  ·cases hr
 ·rename_i T x f ho
  split at hr
  ·rename_i d hd
   split at hr
   ·rename_i c hc
    simp only[yy1] at hr;subst hr
    exact z3z h ho (hg x) hd hc
   ·cases hr
  ·cases hr
 ·rename_i T x f ho
  split at hr
  ·rename_i d cs hd hgx
   split at hr
   ·rename_i t n ht hn
    obtain ⟨h1,h2,rfl⟩:=zl7 hr
    exact zaen h ho (hgx ▸ hg x) hd ht hn h2 h1
   ·cases hr
  ·cases hr
 ·rename_i T x y ho
  split at hr
  ·rename_i E s k i hT hgx hgy
   split at hr
   ·rename_i n hn
    split at hr
    ·rename_i hs
     subst hs
     simp only[yy1] at hr;subst hr
     exact zvp h ho (hgx ▸ hg x) (hgy ▸ hg y) hT hn hobl.1
    ·cases hr
   ·cases hr
  ·rename_i E j k i hT hgx hgy
   split at hr
   ·rename_i s hb
    split at hr
    ·rename_i n hn
     split at hr
     ·rename_i hs
      subst hs
      simp only[yy1] at hr;subst hr
      exact zvp h ho (zacz h (zdp hbk hb (by simp)) (hgx ▸ hg x)) (hgy ▸ hg y) hT hn hobl.1
     ·cases hr
    ·cases hr
   ·rename_i F s hb
    split at hr
    ·rename_i n hn
     split at hr
     ·rename_i hs
      subst hs
      simp only[yy1] at hr;subst hr
      exact z62 h ho (hgx ▸ hg x) (zdp hbk hb (by simp)) (hgy ▸ hg y) hT hn hobl.1
     ·cases hr
    ·cases hr
   ·cases hr
  ·rename_i len E j off k i hT hgx hgy
   split at hr
   ·rename_i n hn
    split at hr
    ·split at hr
     ·rename_i hi
      simp only[yy1] at hr;subst hr
      exact z6q h ho (hgx ▸ hg x) (hgy ▸ hg y) hT hn hi
     ·cases hr
    ·simp only[yy1] at hr;subst hr
     exact z6j h ho (hgx ▸ hg x) (hgy ▸ hg y) hT hn hobl.1
   ·cases hr
  ·rename_i len E j b ix off k i hT hgx hgy
   split at hr
   ·rename_i n hn
    simp only[yy1] at hr;subst hr
    exact z33 h ho (hgx ▸ hg x) (hgy ▸ hg y) hT hn hobl.1
   ·cases hr
  ·rename_i len E j sz off i0 k i hT hgx hgy
   split at hr
   ·rename_i n hn
    split at hr
    ·split at hr
     ·rename_i hi
      simp only[yy1] at hr;subst hr
      exact z4e h ho (hgx ▸ hg x) (hgy ▸ hg y) hT hn hi
     ·cases hr
    ·simp only[yy1] at hr;subst hr
     exact z4d h ho (hgx ▸ hg x) (hgy ▸ hg y) hT hn hobl.1
   ·cases hr
  ·cases hr
 ·rename_i T x y ho
  split at hr
  ·rename_i len E cs k i hT hgx hgy
   split at hr
   ·rename_i t n ht hn
    split at hr
    ·split at hr
     ·rename_i hi
      obtain ⟨h1,h2,rfl⟩:=zl7 hr
      exact z6r h ho (hgx ▸ hg x) (hgy ▸ hg y) hT ht hn hi h2 h1
     ·cases hr
    ·split at hr
     ·rename_i xs hxs
      split at hr
      ·rename_i hc
       simp only[yy1] at hr;subst hr
       exact z6l h ho (hgx ▸ hg x) (hgy ▸ hg y) hT ht hn hobl.1 (fun ht=>hc.resolve_left (by simp[ht])) hxs
      ·cases hr
     ·cases hr
   ·cases hr
  ·rename_i s k i hT hgx hgy
   simp only[yy1] at hr;subst hr
   exact z58 h ho hT (hgx ▸ hg x) (hgy ▸ hg y) hobl.1
  ·cases hr
 ·rename_i T x lo hi ho
  split at hr
  ·rename_i n E j off hT hgx
   split at hr
   ·rename_i m hm
    simp only[yy1] at hr;subst hr
    exact zakb h ho hT hm (hgx ▸ hg x)
   ·cases hr
  ·rename_i s hT hgx
   split at hr
   ·rename_i l r hl hr'
    simp only[yy1] at hr;subst hr
    exact z57 h ho hT hg hgx hl hr' hobl.1
   ·cases hr
  ·rename_i E s hT hgx
   split at hr
   ·rename_i n l r hn hl hr'
    split at hr
    ·rename_i hs
     subst hs
     simp only[yy1] at hr;subst hr
     exact z78 h ho hT hn hg hgx hl hr' hobl.1
    ·cases hr
   ·cases hr
  ·rename_i E j hT hgx
   split at hr
   ·rename_i F s n hb hf hn
    split at hr
    ·rename_i r hr'
     split at hr
     ·rename_i hc
      simp only[yy1] at hr;subst hr
      exact z63 h ho hT (hc.1 ▸ hn) hg hgx (zdp hbk hb (by simp)) (zdp hbk hf (by simp)) hc.2 hr' hobl.1
     ·cases hr
    ·cases hr
   ·cases hr
  ·cases hr
 ·rename_i x i ho
  split at hr
  ·rename_i cs hgx
   split at hr
   ·rename_i c hc
    simp only[yy1] at hr;subst hr
    exact z76 h ho (hgx ▸ hg x) hc
   ·cases hr
  ·cases hr
 ·rename_i op T x y U ho
  split at hr
  ·rename_i u v hgx hgy
   exact z31 h ho (hgx ▸ hg x) (hgy ▸ hg y) hr hobl
  ·rename_i xs ys hgx hgy
   split at hr
   ·rename_i hc
    split at hr
    ·rename_i b hb
     simp only[yy1] at hr;subst hr
     exact zaev h hc.1 ho (hgx ▸ hg x) (hgy ▸ hg y) hc.2 hb
    ·cases hr
   ·cases hr
  ·rename_i s hgx hgy
   split at hr
   ·rename_i E hT hf
    split at hr
    ·rename_i hop
     simp only[yy1] at hr;subst hr
     exact z4v h ho (.inl ⟨hop,rfl,rfl⟩) hT (hgx ▸ hg x) (hgy ▸ hg y) (zdp hbk hf (by simp))
    ·split at hr
     ·rename_i hop
      simp only[yy1] at hr;subst hr
      exact z4v h ho (.inr ⟨hop,rfl,rfl⟩) hT (hgx ▸ hg x) (hgy ▸ hg y) (zdp hbk hf (by simp))
     ·cases hr
   ·cases hr
  ·rename_i hgx hgy
   split at hr
   ·rename_i E hT
    split at hr
    ·rename_i hop
     simp only[yy1] at hr;subst hr
     exact z1v h ho (.inl ⟨hop,rfl⟩) hT (hgx ▸ hg x) (hgy ▸ hg y)
    ·split at hr
     ·rename_i hop
      simp only[yy1] at hr;subst hr
      exact z1v h ho (.inr ⟨hop,rfl⟩) hT (hgx ▸ hg x) (hgy ▸ hg y)
     ·cases hr
   ·cases hr
  ·cases hr
 ·rename_i op T x ho
  split at hr
  ·rename_i u hgx
   cases hp:zi V.P (Op.unary op u) with
   | none=>rw[hp] at hr;cases hr
   | some q =>
    rw[hp] at hr
    simp only[Option.map_some,yy1] at hr;subst hr
    exact zahh h ho (hgx ▸ hg x) hp
  ·cases hr
 ·rename_i T U x ho
  split at hr
  ·rename_i s hgx
   split at hr
   ·rename_i E hT hU
    split at hr
    ·rename_i hE
     simp only[yy1] at hr;subst hr
     exact zaep h ho hT hU hE (hgx ▸ hg x) hobl.1
    ·cases hr
   ·cases hr
  ·rename_i l hgx
   split at hr
   ·rename_i E hT hU
    split at hr
    ·rename_i hE
     simp only[yy1] at hr;subst hr
     exact zaar h ho hU hT hE (hgx ▸ hg x)
    ·cases hr
   ·cases hr
  ·rename_i u _ hgx
   cases hp:zi V.P (convert T U u) with
   | none=>rw[hp] at hr;cases hr
   | some q =>
    rw[hp] at hr
    simp only[Option.map_some,yy1] at hr;subst hr
    exact z8l h ho (hgx ▸ hg x) hp
  ·cases hr
 ·rename_i t len parts ho
  exact zwh h hbk hg ho hr hobl
 ·rename_i f caps ho
  simp only[yy1] at hr;subst hr
  exact z6s h ho hg
 ·rename_i T x ho
  split at hr
  ·rename_i E j hT hgx
   simp only[yy1] at hr;subst hr
   exact z4f h ho hT (hgx ▸ hg x)
  ·cases hr
 ·rename_i T ho
  split at hr
  ·rename_i m hf hm
   simp only[yy1] at hr;subst hr
   exact z8x h ho (zdp hbk hf (by simp)) (zae4 hm)
  ·cases hr
 ·rename_i T x y ok ho
  split at hr
  ·rename_i K E j n hT hgx hgy
   split at hr
   ·rename_i m z hb hK hz
    split at hr
    ·rename_i hzok
     simp only[yy1] at hr;subst hr
     exact zabh h ho hT hK hz hzok (hgx ▸ hg x) (zdp hbk hb (by simp)) (hgy ▸ hg y)
    ·cases hr
   ·cases hr
  ·cases hr
 ·rename_i T x y c ho
  split at hr
  ·rename_i K E j n hT hgx hgy
   split at hr
   ·rename_i m hb hK
    split at hr
    ·rename_i m' hp
     simp only[yy1] at hr;subst hr
     exact z4a h ho hT hK (hgx ▸ hg x) (zdp hbk hb (by simp)) (hgy ▸ hg y) (hg c) hp
    ·cases hr
   ·cases hr
  ·cases hr
 ·rename_i c ho
  split at hr
  ·rename_i b xs ats
   split at hr
   ·rename_i us hus
    split at hr
    ·rename_i q hq
     simp only[yy1] at hr;subst hr
     exact z8m h ho hg (z8b _ _ hus) hq
    ·cases hr
   ·split at hr
    ·split at hr
     ·rename_i s T hs ha
      split at hr
      ·rename_i E hT
       simp only[yy1] at hr;subst hr
       exact zakr h ho ha hT (hg _) (zac1 hbk hs)
      ·cases hr
     ·cases hr
    ·split at hr
     ·split at hr
      ·rename_i ht
       subst ht
       exact z1u h hbk hg ho hr hobl
      ·cases hr
     ·cases hr
    ·cases hr
  ·rename_i y xs ats
   split at hr
   ·rename_i f caps hy
    split at hr
    ·rename_i hf
     split at hr
     ·rename_i F hF
      exact zahi h hbk ho hg hy hf (hV f F hF) hr hobl
     ·cases hr
    ·cases hr
   ·cases hr
  ·cases hr
 ·cases hr
theorem z6e {id:Nat} {g:Operand→AV} {o:Oper} {e:Operand→Value} {r:Res} {bk:Nat→Blk} (hbk:∀ j,bk j=blks.getD j .dead∨bk j=.dead) (hg:∀ x,Rd (cx G blks nu w) (g x) (e x))
  (hr:zaaw V id g bk o=some r) (hobl:zuz r.obl):Does V.P o e w (zf1 G blks nu w r):=by
 unfold zaaw at hr
 split at hr
 ·rename_i T x ho
  split at hr
  ·rename_i j i off hgx
   split at hr
   ·rename_i E F ex l hb ht hn
    split at hr
    ·rename_i h4
     subst h4
     simp only[yy1] at hr;subst hr
     exact z8i h ho (hgx ▸ hg x) (zdp hbk hb (by simp)) ht hn
    ·cases hr
   ·cases hr
  ·cases hr
 ·rename_i T x y ho
  split at hr
  ·rename_i j i off n hgx hgy hn
   split at hr
   ·rename_i E F ex l hb
    split at hr
    ·rename_i h4
     simp only[yy1] at hr;subst hr
     exact z8j h ho (hgx ▸ hg x) (hgy ▸ hg y) (zdp hbk hb (by simp)) hn h4
    ·cases hr
   ·cases hr
  ·rename_i j i k off n hgx hgy hn
   split at hr
   ·rename_i E F ex l hb
    split at hr
    ·rename_i h4
     simp only[yy1] at hr;subst hr
     exact z8k h ho (hgx ▸ hg x) (hgy ▸ hg y) (zdp hbk hb (by simp)) hn h4
    ·cases hr
   ·cases hr
  ·cases hr
 ·rename_i T x y ho
  split at hr
  ·rename_i Q j k i hT hgx hgy
   split at hr
   ·rename_i E F ex l n hb hn
    split at hr
    ·rename_i h6
     subst h6
     simp only[yy1] at hr;subst hr
     exact z36 h ho (hgx ▸ hg x) (zdp hbk hb (by simp)) (hgy ▸ hg y) hT hn hobl.1
    ·cases hr
   ·cases hr
  ·rename_i Q j i kd k hT hgx hgy
   split at hr
   ·rename_i E F ex l n hb hn
    split at hr
    ·rename_i h6
     subst h6
     simp only[yy1] at hr;subst hr
     exact z6p h ho (hgx ▸ hg x) (zdp hbk hb (by simp)) (hgy ▸ hg y) hT hn hobl.1
    ·cases hr
   ·cases hr
  ·cases hr
 ·rename_i t x ho
  split at hr
  ·rename_i js _ hgx
   split at hr
   ·rename_i E sz bytes F s hi hb hf
    split at hr
    ·rename_i z hz
     split at hr
     ·rename_i a0 a1 a2 a3 js' c5 hfill
      split at hr
      ·rename_i d hd
       split at hr
       ·rename_i hc
        obtain ⟨rfl,rfl,hne⟩:=hc
        simp only[yy1] at hr;subst hr
        exact z37 h ho (hg x) hi hz hfill (zdp hbk hb (by simp)) (fun C v hv=>zags hd hv) (zdp hbk hf (by simp)) hne
       ·cases hr
      ·cases hr
     ·cases hr
    ·cases hr
   ·cases hr
  ·cases hr
 ·rename_i c ho
  split at hr
  ·rename_i x ats
   split at hr
   ·rename_i j T hgx ha
    split at hr
    ·rename_i Q E F ex l hT hb
     simp only[yy1] at hr;subst hr
     exact z0e h ho ha hT (zakn h (zdp hbk hb (by simp)) (hgx ▸ hg x))
    ·cases hr
   ·rename_i j i T hgx ha
    split at hr
    ·rename_i Q E F ex l hT hb
     simp only[yy1] at hr;subst hr
     exact z0e h ho ha hT (zao3 h (zdp hbk hb (by simp)) (hgx ▸ hg x))
    ·cases hr
   ·cases hr
  ·rename_i x y t t'
   split at hr
   ·rename_i jy hgy
    split at hr
    ·rename_i E sz bytes E' F exy ly hi hby hf
     split at hr
     ·rename_i hc
      obtain ⟨rfl,rfl,rfl,hjy⟩:=hc
      have hby':=zdp hbk hby (by simp)
      have hf':=zdp hbk hf (by simp)
      obtain ⟨v0,wsy,vsy,y1,y2,y3⟩:=zp8 h hby' (hgy ▸ hg y)
      have y3:e y=v0:=zp9 y3
      subst y3
      have hjl:jy < blks.length:=by
       rcases Nat.lt_or_ge jy blks.length with q | q
       ·exact q
       ·rw[yy0,List.getElem?_eq_none q] at hby';cases hby'
      split at hr
      ·rename_i hgx
       simp only[yy1] at hr;subst hr
       have hx:e x=.slice none 0 0:=by
        have:=hg x
        rw[hgx] at this
        generalize e x=a at this
        cases this;rfl
       exact ztk (exx:=true) (lx:=[]) (wsx:=#[]) (vsx:=[]) (oldx:=none) (blks1:=blks.set jy .dead) h ho hi (by rw[hx];exact zac9 _ _ _ _) (fun j hj=>by cases hj) (fun _=>⟨hx,rfl⟩) hby' y1 y2 hjy hf' (by simp)
        (fun i _ hi=>getD_set_ne (fun q=>hi (.inl q.symm))) (fun j hj=>by
         rcases hj with rfl | hj
         ·exact zp hjl
         ·cases hj) hobl.1
      ·rename_i jx hgx
       split at hr
       ·rename_i E'' F'' exx lx hbx
        split at hr
        ·rename_i hc
         obtain ⟨rfl,rfl,hxi,hxy⟩:=hc
         simp only[yy1] at hr;subst hr
         have hbx':=zdp hbk hbx (by simp)
         obtain ⟨v0,wsx,vsx,x1,x2,x3⟩:=zp8 h hbx' (hgx ▸ hg x)
         have x3:e x=v0:=zp9 x3
         subst x3
         have hjx:jx < blks.length:=by
          rcases Nat.lt_or_ge jx blks.length with q | q
          ·exact q
          ·rw[yy0,List.getElem?_eq_none q] at hbx';cases hbx'
         exact ztk (oldx:=some jx) (blks1:=(blks.set jx .dead).set jy .dead) h ho hi x2 (fun j hj=>by simp only[yy1] at hj;subst hj;exact ⟨x1,by rw[hbx'];rfl,hxi,hxy⟩) (fun hj=>by cases hj) hby' y1 y2 hjy hf' (by simp)
          (fun i _ hi=>by rw[getD_set_ne (fun q=>hi (.inl q.symm)),getD_set_ne (fun q=>hi (.inr (by rw[q])))]) (fun j hj=>by
           rcases hj with rfl | hj
           ·exact zp (by simpa using hjl)
           ·simp only[yy1] at hj;subst hj
            rw[getD_set_ne (fun q=>hxy q.symm),zp hjx]) hobl.1
        ·cases hr
       ·cases hr
      ·cases hr
     ·cases hr
    ·cases hr
   ·cases hr
  ·cases hr
 ·cases hr
include hV in
theorem zwi {id:Nat} {g:Operand→AV} {o:Oper} {e:Operand→Value} {r:Res} {bk:Nat→Blk} (hbk:∀ j,bk j=blks.getD j .dead∨bk j=.dead) (hg:∀ x,Rd (cx G blks nu w) (g x) (e x))
  (hr:zaax V id g bk o=some r) (hobl:zuz r.obl):Does V.P o e w (zf1 G blks nu w r):=by
 unfold zaax at hr
 split at hr
 ·rename_i r' h0
  simp only[yy1] at hr;subst hr
  exact z8c hV h hbk hg h0 hobl
 ·exact z6e h hbk hg hr hobl
end sound
structure FP where
 rs:List Nat
 rb:List Nat
 wb:List Nat
structure View where
 sl:Nat→SV
 bk:Nat→Blk
def zb1:Option FP→RSt→View
 | none,st=>⟨st.slot,st.blk⟩
 | some fp,st=>⟨fun d=>if fp.rs.contains d then st.slot d else .plain .any,fun j=>if fp.rb.contains j then st.blk j else .dead⟩
def View.E (V:View) (gs:List Nat) (d:Nat):Option Bool:=if gs.contains d then (V.sl d).boolOf else none
def zaa7 (ops:Array Oper) (gs:List Nat) (V:View) (o:Oper):Option (List (Nat×Bool)) :=
 match o.guard with
 | none=>some []
 | some (j,want)=>match (ops[j]?).bind (·.dst) with
  | some d=>if gs.contains d then match V.sl d with
    | .plain (.val (.bool _))=>some [(d,want)]
    | .cond t (.val (.bool _))=>some ((d,want)::t)
    | _=>none
   else none
  | none=>none
def zas0 (t t':List (Nat×Bool)):Bool:=t.all fun p=>t'.contains p
def zr4 (V:View) (t:List (Nat×Bool)):Operand→AV
 | .tmp d=>match V.sl d with
  | .plain x=>x
  | .cond t' x=>if zas0 t' t=true then x else .any
 | .const v=>.val v
 | .global _=>.any
 | .func f=>.fn f []
def zx0 (E:Nat→Option Bool):List (Nat×Bool)→List Prop→Prop
 | [],ps=>zuz ps
 | (d,want)::t,ps=>match E d with
  | some b=>b=want→zx0 E t ps
  | none=>zx0 E t ps
def zaa8 (E:Nat→Option Bool) (t:List (Nat×Bool)) (ps:List Prop):List Prop :=
 match ps,t with
 | [],_=>[]
 | ps,[]=>ps
 | ps,t=>[zx0 E t ps]
def zaa9 (V:View) (gs:List Nat) (t:List (Nat×Bool)) (c x y:Operand):Option AV :=
 match c with
 | .tmp d=>match zr4 V t (.tmp d) with
  | .val (.bool b) =>
   match x,y with
   | .const (.bool true),y=>match zr4 V (if gs.contains d then (d,false)::t else t) y with
    | .val (.bool b')=>some (.val (.bool (b||b')))
    | _=>none
   | x,.const (.bool false)=>match zr4 V (if gs.contains d then (d,true)::t else t) x with
    | .val (.bool b')=>some (.val (.bool (b&&b')))
    | _=>none
   | _,_=>none
  | _=>none
 | _=>none
structure Out where
 obl:List Prop
 sv:SV
 bs:List (Nat×Blk)
def core (Y:Env) (ops:Array Oper) (gs:List Nat) (id:Nat) (V:View) (o:Oper):Option Out :=
 match zaa7 ops gs V o with
 | none=>none
 | some t =>
  match o.op with
  | .pick c x y=>match zaa9 V gs t c x y with
   | some v=>some ⟨[],if t=[] then .plain v else .cond t v,[]⟩
   | none=>none
  | _=>match zaax Y id (zr4 V t) V.bk o with
   | some r=>match t,r.bs with
    | [],bs=>some ⟨r.obl,.plain r.v,bs⟩
    | t,[]=>some ⟨zaa8 (V.E gs) t r.obl,.cond t r.v,[]⟩
    | _,_=>none
   | none=>none
def zadf (l:List SV):Option Nat→SV→List SV
 | some d,sv=>l.set d sv
 | none,_=>l
def RSt.apply (st:RSt) (dst:Option Nat) (sv:SV) (bs:List (Nat×Blk)):RSt:=⟨zadf st.slots dst sv,upd st.blks bs⟩
def zx1 (gs:List Nat) (st:RSt):Option Nat→Bool
 | some d => !(gs.contains d&&(st.slot d).boolOf.isSome)
 | none=>true
def wbOk:Option FP→List (Nat×Blk)→Bool
 | some f,bs=>bs.all fun p=>f.wb.contains p.1
 | none,_=>true
def zjx (Y:Env) (ops:Array Oper) (gs:List Nat) (ids:Nat→Nat) (fp:Nat→Option FP) (i:Nat) (st:RSt):Option (List Prop×RSt) :=
 match ops[i]? with
 | none=>none
 | some o=>match core Y ops gs (ids i) (zb1 (fp i) st) o with
  | some out=>if wbOk (fp i) out.bs=true∧zx1 gs st o.dst=true then some (out.obl,st.apply o.dst out.sv out.bs) else none
  | none=>none
section
variable {Y:Env} {G:Gl} {gs:List Nat} {st:RSt} {nu:Nat→Option Value} {a:Act} {w:World}
theorem RInv.slot (h:RInv G gs st nu a w) (d:Nat):SRd (st.E gs) (cx G st.blks nu w) (st.slot d) (a.tmps.getD d undef):=by
 by_cases hd:d < st.slots.length
 ·exact h.slots d hd
 ·have:st.slot d=.plain .any:=by unfold RSt.slot;rw[yy0,List.getElem?_eq_none (by omega)];rfl
  rw[this];exact Rd.any
theorem zx2 (fp:Option FP) (d:Nat):(zb1 fp st).sl d=st.slot d∨(zb1 fp st).sl d=.plain .any:=by
 cases fp with
 | none=>exact .inl rfl
 | some f =>
  simp only[zb1]
  split
  ·exact .inl rfl
  ·exact .inr rfl
theorem zas1 {fp:Option FP} {d:Nat} {b:Bool} (hE:(zb1 fp st).E gs d=some b):st.E gs d=some b:=by
 unfold View.E at hE
 unfold RSt.E
 split at hE
 ·rename_i hc
  rw[if_pos hc]
  rcases zx2 (st:=st) fp d with hs | hs
  ·rw[← hs];exact hE
  ·rw[hs] at hE;cases hE
 ·cases hE
def Tags (E:Nat→Option Bool) (t:List (Nat×Bool)):Prop:=∀ p,p∈t→E p.1=some p.2
theorem zpn (h:RInv G gs st nu a w) {fp:Option FP} {t:List (Nat×Bool)} (ht:Tags (st.E gs) t) (x:Operand):Rd (cx G st.blks nu w) (zr4 (zb1 fp st) t x) (a.eval x):=by
 cases x with
 | const v=>exact .val
 | global g=>exact .any
 | func f=>exact .fn (cs:=[]) (vs:=[]) rfl (fun i hi=>absurd hi (Nat.not_lt_zero i))
 | tmp d =>
  have hs:=h.slot d
  simp only[zr4,Act.eval]
  rcases zx2 (st:=st) fp d with e | e
  ·rw[e]
   cases hx:st.slot d with
   | plain x=>rw[hx] at hs;exact hs
   | cond t' x =>
    rw[hx] at hs
    simp only
    split
    ·rename_i hw
     rcases hs with ⟨_,h2⟩ | ⟨⟨p,hp,hpE⟩,_⟩
     ·exact h2
     ·have hmem:p∈t:=by
       have:=List.all_eq_true.1 hw p hp
       simpa using this
      have:=ht p hmem
      rw[hpE] at this
      simp at this
    ·exact .any
  ·rw[e];exact .any
theorem zr5 (h:RInv G gs st nu a w) {ops:Array Oper} {fp:Option FP} {o:Oper} {t:List (Nat×Bool)} (ht:zaa7 ops gs (zb1 fp st) o=some t) :
  (Region.wanted o (yielded ops a.tmps)=true∧Tags (st.E gs) t)∨(Region.wanted o (yielded ops a.tmps)=false∧t≠[]∧∃ p,p∈t∧st.E gs p.1=some (!p.2)):=by
 unfold zaa7 at ht
 split at ht
 ·rename_i hg
  simp only[yy1] at ht
  subst ht
  exact .inl ⟨by simp[Region.wanted,hg],fun p hp=>by cases hp⟩
 ·rename_i j want hg
  split at ht
  ·rename_i d hd
   split at ht
   ·rename_i hc
    have hy:yielded ops a.tmps j=match a.tmps.getD d undef with | .bool b=>some b | _=>none:=by
     cases ho:ops[j]? with
     | none=>rw[ho] at hd;cases hd
     | some oj =>
      rw[ho] at hd
      simp only[Option.bind_some] at hd
      simp[yielded,ho,hd]
      cases a.tmps[d]? with
      | none=>rfl
      | some u=>cases u<;>rfl
    have hs:=h.slot d
    rcases zx2 (st:=st) fp d with e | e
    ·rw[e] at ht
     have hE:∀ b,(st.slot d).boolOf=some b→st.E gs d=some b:=fun b hb=>by unfold RSt.E;rw[if_pos hc];exact hb
     split at ht
     ·rename_i b hx
      simp only[yy1] at ht
      subst ht
      rw[hx] at hs
      have hv:a.tmps.getD d undef=.bool b:=by
       generalize a.tmps.getD d undef=v at hs
       cases hs;rfl
      have hEb:=hE b (by rw[hx];rfl)
      rw[hv] at hy
      by_cases hbw:b=want
      ·subst hbw
       exact .inl ⟨by simp[Region.wanted,hg,hy],fun p hp=>by simp at hp;subst hp;exact hEb⟩
      ·refine .inr ⟨by simp[Region.wanted,hg,hy,hbw],by simp,(d,want),by simp,?_⟩
       rw[hEb];cases b<;>cases want<;>simp_all
     ·rename_i t' b hx
      simp only[yy1] at ht
      subst ht
      rw[hx] at hs
      have hEb:=hE b (by rw[hx];rfl)
      rcases hs with ⟨h1,h2⟩ | ⟨⟨p,h1,h2⟩,h3⟩
      ·have hv:a.tmps.getD d undef=.bool b:=by
        generalize a.tmps.getD d undef=v at h2
        cases h2;rfl
       rw[hv] at hy
       by_cases hbw:b=want
       ·subst hbw
        refine .inl ⟨by simp[Region.wanted,hg,hy],fun p hp=>?_⟩
        rcases List.mem_cons.1 hp with rfl | hp
        ·exact hEb
        ·exact h1 p hp
       ·refine .inr ⟨by simp[Region.wanted,hg,hy,hbw],by simp,(d,want),by simp,?_⟩
        rw[hEb];cases b<;>cases want<;>simp_all
      ·rw[h3] at hy
       refine .inr ⟨?_,by simp,p,List.mem_cons_of_mem _ h1,h2⟩
       have:yielded ops a.tmps j=none:=by rw[hy];rfl
       simp[Region.wanted,hg,this]
     ·cases ht
    ·rw[e] at ht;simp at ht
   ·cases ht
  ·cases ht
theorem RInv.put (h:RInv G gs st nu a w) {blks':List Blk} {nu':Nat→Option Value} {w':World} (hle:(cx G st.blks nu w).Le (cx G blks' nu' w')) (hm:MInv G blks' nu' w')
  {dst:Option Nat} {sv:SV} {v:Value} (hE:∀ d,dst=some d→gs.contains d=true→(st.slot d).boolOf=none)
  (hv:SRd (st.E gs) (cx G blks' nu' w') sv v) :
  RInv G gs ⟨zadf st.slots dst sv,blks'⟩ nu' (a.put dst v) w':=by
 cases dst with
 | none =>
  refine ⟨hm,h.size,h.defers,fun d hd=>?_⟩
  exact (h.slots d hd).mono hle (fun _ _ h=>h)
 | some d0 =>
  have hEmono:∀ d b,st.E gs d=some b→RSt.E ⟨st.slots.set d0 sv,blks'⟩ gs d=some b:=by
   intro d b hb
   unfold RSt.E at hb ⊢
   split at hb
   ·rename_i hc
    rw[if_pos hc]
    by_cases hd:d0=d
    ·subst hd
     rw[hE d0 rfl hc] at hb;cases hb
    ·have:(⟨st.slots.set d0 sv,blks'⟩:RSt).slot d=st.slot d:=getD_set_ne hd
     rw[this];exact hb
   ·cases hb
  show RInv G gs ⟨st.slots.set d0 sv,blks'⟩ nu' (a.put (some d0) v) w'
  refine ⟨hm,by simp[Act.put,h.size],h.defers,fun d hd=>?_⟩
  simp only[List.length_set] at hd
  have hsz:=h.size
  by_cases hdd:d0=d
  ·subst hdd
   have e1:(⟨st.slots.set d0 sv,blks'⟩:RSt).slot d0=sv:=zp hd
   have e2:(a.put (some d0) v).tmps.getD d0 undef=v:=by
    simp[Act.put,Array.getD,hsz,hd]
   rw[e1,e2]
   exact hv.mono (.refl _) hEmono
  ·have e1:(⟨st.slots.set d0 sv,blks'⟩:RSt).slot d=st.slot d:=getD_set_ne hdd
   have e2:(a.put (some d0) v).tmps.getD d undef=a.tmps.getD d undef:=by
    simp[Act.put,Array.getElem?_setIfInBounds_ne hdd]
   rw[e1,e2]
   exact (h.slots d hd).mono hle hEmono
theorem ztm {E E':Nat→Option Bool} (hE:∀ d b,E d=some b→E' d=some b):∀ {t:List (Nat×Bool)} {ps:List Prop},Tags E' t→zx0 E t ps→zuz ps
 | [],_,_,h=>h
 | (d,want)::t,ps,ht,h=>by
  simp only[zx0] at h
  have ht':Tags E' t:=fun p hp=>ht p (List.mem_cons_of_mem _ hp)
  cases hd:E d with
  | none=>rw[hd] at h;exact ztm hE ht' h
  | some b =>
   rw[hd] at h
   have h2:=ht (d,want) (by simp)
   have h3:=hE d b hd
   simp only at h2
   rw[h2] at h3
   simp only[yy1] at h3
   exact ztm hE ht' (h h3.symm)
theorem zaba {E E':Nat→Option Bool} (hE:∀ d b,E d=some b→E' d=some b) {t:List (Nat×Bool)} {ps:List Prop} (ht:Tags E' t) (h:zuz (zaa8 E t ps)):zuz ps:=by
 unfold zaa8 at h
 split at h
 ·trivial
 ·exact h
 ·exact ztm hE ht h.1
theorem z6x (h:RInv G gs st nu a w) {fp:Option FP} {t:List (Nat×Bool)} (ht:Tags (st.E gs) t) {c x y:Operand} {v:AV} (hv:zaa9 (zb1 fp st) gs t c x y=some v) :
  ∃ b,a.eval c=.bool b∧Rd (cx G st.blks nu w) v (if b then a.eval x else a.eval y):=by
 unfold zaa9 at hv
 split at hv
 ·rename_i d
  split at hv
  ·rename_i b hb
   have h1:=zpn h (fp:=fp) ht (.tmp d)
   rw[hb] at h1
   have hval:a.eval (.tmp d)=.bool b:=by generalize a.eval (.tmp d)=u at h1;cases h1;rfl
   have hE:gs.contains d=true→st.E gs d=some b:=by
    intro hc
    unfold RSt.E
    rw[if_pos hc]
    simp only[zr4] at hb
    rcases zx2 (st:=st) fp d with e | e
    ·rw[e] at hb
     cases hx:st.slot d with
     | plain z=>rw[hx] at hb;simp only at hb;rw[hb];rfl
     | cond t' z =>
      rw[hx] at hb
      simp only at hb
      split at hb
      ·rw[hb];rfl
      ·cases hb
    ·rw[e] at hb;cases hb
   have tags:∀ want,b=want→Tags (st.E gs) (if gs.contains d then (d,want)::t else t):=by
    intro want hw
    split
    ·rename_i hc
     intro p hp
     rcases List.mem_cons.1 hp with rfl | hp
     ·rw[← hw];exact hE hc
     ·exact ht p hp
    ·exact ht
   refine ⟨b,hval,?_⟩
   split at hv
   ·split at hv
    ·rename_i b' hb'
     simp only[yy1] at hv;subst hv
     cases b with
     | true=>exact Rd.val
     | false =>
      have h2:=zpn h (fp:=fp) (tags false rfl) y
      rw[hb'] at h2
      simpa using h2
    ·cases hv
   ·split at hv
    ·rename_i b' hb'
     simp only[yy1] at hv;subst hv
     cases b with
     | false=>exact Rd.val
     | true =>
      have h2:=zpn h (fp:=fp) (tags true rfl) x
      rw[hb'] at h2
      simpa using h2
    ·cases hv
   ·cases hv
  ·cases hv
 ·cases hv
theorem z6y (h:RInv G gs st nu a w) (fp:Option FP):∀ j,(zb1 fp st).bk j=st.blk j∨(zb1 fp st).bk j=.dead:=by
 intro j
 cases fp with
 | none=>exact .inl rfl
 | some f =>
  simp only[zb1]
  split
  ·exact .inl rfl
  ·exact .inr rfl
theorem zaez (hY:Y.Ok) (h:RInv G gs st nu a w) {ops:Array Oper} {fp:Option FP} {id:Nat} {o:Oper} {out:Out} (hc:core Y ops gs id (zb1 fp st) o=some out) (hobl:zuz out.obl)
  (hd:zx1 gs st o.dst=true) {K:Act→World→Prop} {Q:Exit→Act→World→Prop} (hK:∀ nu' a' w',RInv G gs (st.apply o.dst out.sv out.bs) nu' a' w'→K a' w') :
  if Region.wanted o (yielded ops a.tmps) then o.wp Y.P a w K Q else K (a.put o.dst undef) w:=by
 have hE:∀ d,o.dst=some d→gs.contains d=true→(st.slot d).boolOf=none:=by
  intro d hd' hg
  rw[hd'] at hd
  simp only[zx1,hg,Bool.true_and,Bool.not_eq_true',Option.isSome_eq_false_iff,Option.isNone_iff_eq_none] at hd
  exact hd
 unfold core at hc
 split at hc
 ·cases hc
 ·rename_i t ht
  have skip:t≠[]→(∃ p,p∈t∧st.E gs p.1=some (!p.2))→∀ x,out.sv=.cond t x→out.bs=[]→K (a.put o.dst undef) w:=by
   intro _ hp x hsv hbs
   have:=hK nu (a.put o.dst undef) w
   rw[hsv,hbs] at this
   exact this (h.put (.refl _) h.mem hE (Or.inr ⟨hp,rfl⟩))
  have run:∀ (v:Value) (w':World) (nu':Nat→Option Value) (bs:List (Nat×Blk)) (x:AV),out.bs=bs→(cx G st.blks nu w).Le (cx G (upd st.blks bs) nu' w')→MInv G (upd st.blks bs) nu' w' →
    Rd (cx G (upd st.blks bs) nu' w') x v→Tags (st.E gs) t→(out.sv=.plain x∨out.sv=.cond t x)→K (a.put o.dst v) w':=by
   intro v w' nu' bs x hbs h1 h2 h3 htg hsv
   have:=hK nu' (a.put o.dst v) w'
   rw[hbs] at this
   refine this (h.put h1 h2 hE ?_)
   rcases hsv with e | e<;>rw[e]
   ·exact h3
   ·exact Or.inl ⟨htg,h3⟩
  split at hc
  ·rename_i c x y hop
   split at hc
   ·rename_i v hv
    simp only[yy1] at hc
    subst hc
    rcases zr5 h ht with ⟨hw,htg⟩ | ⟨hw,hne,hp⟩
    ·rw[if_pos hw]
     obtain ⟨b,hb,hr⟩:=z6x h htg hv
     have hdoes:Does Y.P o a.eval w (fun u w'=>u=(if b then a.eval x else a.eval y)∧w'=w):=by
      refine Does.value (v:=if b then a.eval x else a.eval y) (w':=w) ?_ ⟨rfl,rfl⟩
      simp[execOp,hop,hb,asBool]
     refine hdoes.wp fun u w' hu=>?_
     obtain ⟨rfl,rfl⟩:=hu
     exact run _ _ nu [] v rfl (.refl _) h.mem hr htg (by
      simp only
      split
      ·exact .inl rfl
      ·exact .inr rfl)
    ·rw[if_neg (by simp[hw])]
     exact skip hne hp v (by simp[hne]) rfl
   ·cases hc
  ·split at hc
   ·rename_i r hr
    split at hc
    ·simp only[yy1] at hc
     subst hc
     rcases zr5 h ht with ⟨hw,htg⟩ | ⟨_,hne,_⟩
     ·rw[if_pos hw]
      refine (zwi hY h.mem (z6y h fp) (fun x=>zpn h htg x) hr hobl).wp fun v w' hp=>?_
      obtain ⟨nu',h1,h2,h3⟩:=hp
      exact run v w' nu' _ r.v rfl h1 h2 h3 htg (.inl rfl)
     ·exact absurd rfl hne
    ·rename_i hbs
     simp only[yy1] at hc
     subst hc
     rcases zr5 h ht with ⟨hw,htg⟩ | ⟨hw,hne,hp⟩
     ·rw[if_pos hw]
      refine (zwi hY h.mem (z6y h fp) (fun x=>zpn h htg x) hr (zaba (fun d b hb=>zas1 hb) htg hobl)).wp fun v w' hp=>?_
      obtain ⟨nu',h1,h2,h3⟩:=hp
      exact run v w' nu' r.bs r.v hbs.symm h1 h2 h3 htg (.inr rfl)
     ·rw[if_neg (by simp[hw])]
      exact skip hne hp r.v rfl rfl
    ·cases hc
   ·cases hc
theorem ztn (hY:Y.Ok) (h:RInv G gs st nu a w) {ops:Array Oper} {ids:Nat→Nat} {fp:Nat→Option FP} {i:Nat} {ob:List Prop} {st':RSt} (hs:zjx Y ops gs ids fp i st=some (ob,st'))
  (hobl:zuz ob) {K:Act→World→Prop} {Q:Exit→Act→World→Prop} (hK:∀ nu' a' w',RInv G gs st' nu' a' w'→K a' w'):wpOp Y.P ops Q i K a w:=by
 unfold zjx at hs
 split at hs
 ·cases hs
 ·rename_i o ho
  split at hs
  ·rename_i out hc
   split at hs
   ·rename_i hok
    simp only[yy1,Prod.mk.injEq] at hs
    obtain ⟨rfl,rfl⟩:=hs
    have:=zaez (Q:=Q) hY h hc hobl hok.2 hK
    unfold wpOp
    simp only[ho]
    split
    ·rename_i hw;rw[if_pos hw] at this;exact .inl this
    ·rename_i hw;rw[if_neg hw] at this;exact this
   ·cases hs
  ·cases hs
def zr6 (Y:Env) (ops:Array Oper) (gs:List Nat) (ids:Nat→Nat) (fp:Nat→Option FP):List Nat→RSt→Option (List Prop×RSt)
 | [],st=>some ([],st)
 | i::l,st=>match zjx Y ops gs ids fp i st with
  | some (ob,st1)=>match zr6 Y ops gs ids fp l st1 with
   | some (ob',st2)=>some (ob++ob',st2)
   | none=>none
  | none=>none
theorem zwq:∀ {l m:List Prop},zuz (l++m)→zuz l∧zuz m
 | [],_,h=>⟨trivial,h⟩
 | _::_,_,h=>⟨⟨h.1,(zwq h.2).1⟩,(zwq h.2).2⟩
end
def disj (l m:List Nat):Bool:=l.all fun x => !m.contains x
def zzk (f g:FP) (d d':Option Nat):Bool :=
 (match d,d' with | some x,some y=>x != y | _,_=>true) &&
 (match d with | some x => !g.rs.contains x | none=>true) &&
 (match d' with | some y => !f.rs.contains y | none=>true) &&
 disj f.wb g.rb&&disj f.wb g.wb&&disj g.wb f.rb
theorem z17 {l m:List Nat} (h:disj l m=true) {x:Nat} (hx:x∈l):x∉m:=by
 have:=List.all_eq_true.1 h x hx
 simpa using this
theorem z1e {j:Nat}:∀ (bs:List (Nat×Blk)) (l:List Blk),(∀ p,p∈bs→p.1≠j)→(upd l bs).getD j .dead=l.getD j .dead
 | [],l,_=>rfl
 | p::bs,l,h=>by
  show (upd (l.set p.1 p.2) bs).getD j .dead=_
  rw[z1e bs _ (fun q hq=>h q (List.mem_cons_of_mem _ hq))]
  exact getD_set_ne (h p (by simp))
theorem zahu {k:Nat} {x:Blk}:∀ (bs:List (Nat×Blk)) (l:List Blk),(∀ p,p∈bs→p.1≠k)→upd (l.set k x) bs=(upd l bs).set k x
 | [],l,_=>rfl
 | p::bs,l,h=>by
  show upd ((l.set k x).set p.1 p.2) bs=(upd (l.set p.1 p.2) bs).set k x
  rw[List.set_comm _ _ (Ne.symm (h p (by simp))),zahu bs _ (fun q hq=>h q (List.mem_cons_of_mem _ hq))]
theorem zadi:∀ (bs cs:List (Nat×Blk)) (l:List Blk),(∀ p q,p∈bs→q∈cs→p.1≠q.1)→upd (upd l bs) cs=upd (upd l cs) bs
 | [],cs,l,_=>rfl
 | p::bs,cs,l,h=>by
  show upd (upd (l.set p.1 p.2) bs) cs=upd ((upd l cs).set p.1 p.2) bs
  rw[zadi bs cs _ (fun a b ha hb=>h a b (List.mem_cons_of_mem _ ha) hb),zahu cs l (fun q hq=>(h p q (by simp) hq).symm)]
section
variable {Y:Env} {gs:List Nat} {ops:Array Oper} {ids:Nat→Nat} {fp:Nat→FP}
theorem z48 {f:FP} {st:RSt} {d:Option Nat} {sv:SV} {bs:List (Nat×Blk)} (hd:∀ x,d=some x→f.rs.contains x=false) (hb:∀ p,p∈bs→f.rb.contains p.1=false) :
  zb1 (some f) (st.apply d sv bs)=zb1 (some f) st:=by
 show View.mk _ _=View.mk _ _
 congr 1
 ·funext x
  split
  ·rename_i hx
   cases d with
   | none=>rfl
   | some y =>
    refine getD_set_ne (fun e=>?_)
    have:=hd y rfl
    rw[e,hx] at this;cases this
  ·rfl
 ·funext j
  split
  ·rename_i hj
   exact z1e bs _ (fun p hp e=>by have:=hb p hp;rw[e,hj] at this;cases this)
  ·rfl
theorem z18 {st:RSt} {d d':Option Nat} {sv:SV} {bs:List (Nat×Blk)} (hd:∀ x y,d=some x→d'=some y→x≠y):zx1 gs (st.apply d sv bs) d'=zx1 gs st d':=by
 cases d' with
 | none=>rfl
 | some y =>
  cases d with
  | none=>rfl
  | some x =>
   have:(st.apply (some x) sv bs).slot y=st.slot y:=getD_set_ne (hd x y rfl rfl)
   simp only[zx1,this]
theorem z19 {i:Nat} {st s1:RSt} {ob:List Prop} (h:zjx Y ops gs ids (fun i=>some (fp i)) i st=some (ob,s1)) :
  ∃ o out,ops[i]?=some o∧core Y ops gs (ids i) (zb1 (some (fp i)) st) o=some out∧(∀ p,p∈out.bs→p.1∈(fp i).wb)∧zx1 gs st o.dst=true∧ob=out.obl∧s1=st.apply o.dst out.sv out.bs:=by
 unfold zjx at h
 split at h
 ·cases h
 ·rename_i o ho
  split at h
  ·rename_i out hc
   split at h
   ·rename_i hok
    simp only[yy1,Prod.mk.injEq] at h
    refine ⟨o,out,ho,hc,fun p hp=>?_,hok.2,h.1.symm,h.2.symm⟩
    have:=List.all_eq_true.1 hok.1 p hp
    simpa using this
   ·cases h
  ·cases h
theorem z8y {i:Nat} {st:RSt} {o:Oper} {out:Out} (ho:ops[i]?=some o) (hc:core Y ops gs (ids i) (zb1 (some (fp i)) st) o=some out) (hw:∀ p,p∈out.bs→p.1∈(fp i).wb) (hd:zx1 gs st o.dst=true) :
  zjx Y ops gs ids (fun i=>some (fp i)) i st=some (out.obl,st.apply o.dst out.sv out.bs):=by
 unfold zjx
 simp only[ho,hc]
 rw[if_pos]
 refine ⟨?_,hd⟩
 simp only[wbOk,List.all_eq_true]
 intro p hp
 simpa using hw p hp
theorem zabi {i j:Nat} {st s1 s12:RSt} {ob1 ob2:List Prop} {oi oj:Oper} (hi:ops[i]?=some oi) (hj:ops[j]?=some oj) (hap:zzk (fp i) (fp j) oi.dst oj.dst=true)
  (h1:zjx Y ops gs ids (fun i=>some (fp i)) i st=some (ob1,s1)) (h2:zjx Y ops gs ids (fun i=>some (fp i)) j s1=some (ob2,s12)) :
  ∃ s2,zjx Y ops gs ids (fun i=>some (fp i)) j st=some (ob2,s2)∧zjx Y ops gs ids (fun i=>some (fp i)) i s2=some (ob1,s12):=by
 unfold zzk at hap
 simp only[yy7] at hap
 obtain ⟨⟨⟨⟨⟨a1,a2⟩,a3⟩,a4⟩,a5⟩,a6⟩:=hap
 obtain ⟨o1,out1,e1,c1,w1,d1,rfl,rfl⟩:=z19 h1
 rw[hi] at e1;cases e1
 obtain ⟨o2,out2,e2,c2,w2,d2,rfl,rfl⟩:=z19 h2
 rw[hj] at e2;cases e2
 have hne:∀ x y,oi.dst=some x→oj.dst=some y→x≠y:=by
  intro x y hx hy
  rw[hx,hy] at a1
  simpa using a1
 have v2:zb1 (some (fp j)) (st.apply oi.dst out1.sv out1.bs)=zb1 (some (fp j)) st :=
  z48 (fun x hx=>by rw[hx] at a2;simpa using a2) (fun p hp=>by have:=z17 a4 (w1 p hp);simpa using this)
 have v1:zb1 (some (fp i)) (st.apply oj.dst out2.sv out2.bs)=zb1 (some (fp i)) st :=
  z48 (fun x hx=>by rw[hx] at a3;simpa using a3) (fun p hp=>by have:=z17 a6 (w2 p hp);simpa using this)
 rw[v2] at c2
 rw[z18 hne] at d2
 refine ⟨st.apply oj.dst out2.sv out2.bs,z8y hj c2 w2 d2,?_⟩
 have:=z8y (st:=st.apply oj.dst out2.sv out2.bs) hi (by rw[v1];exact c1) w1 (by rw[z18 (fun x y hx hy=>(hne y x hy hx).symm)];exact d1)
 rw[this]
 congr 2
 unfold RSt.apply
 congr 1
 ·cases hx:oi.dst with
  | none=>rfl
  | some x =>
   cases hy:oj.dst with
   | none=>rfl
   | some y=>exact List.set_comm _ _ (hne x y hx hy).symm
 ·exact zadi _ _ _ (fun p q hp hq e=>z17 a5 (w1 q hq) (e ▸ w2 p hp))
def z8z (Y:Env) (ops:Array Oper) (gs:List Nat) (ids:Nat→Nat) (fp:Nat→FP) (Q:RSt→Prop):Nat→Array Bool→RSt→Prop
 | 0,listed,st=>Region.ready .any ops listed=[]∧Q st
 | fuel+1,listed,st=>(Region.ready .any ops listed=[]→Q st) ∧
  ∀ i∈Region.ready .any ops listed,∃ ob st',zjx Y ops gs ids (fun i=>some (fp i)) i st=some (ob,st')∧zuz ob∧z8z Y ops gs ids fp Q fuel (listed.setIfInBounds i true) st'
theorem z0i (hY:Y.Ok) {G:Gl} {Qs:RSt→Prop} {Q:Exit→Act→World→Prop} (hQ:∀ st nu a w,Qs st→RInv G gs st nu a w→Q .normal a w) :
  ∀ (fuel:Nat) (listed:Array Bool) (st:RSt) (nu:Nat→Option Value) (a:Act) (w:World),RInv G gs st nu a w→z8z Y ops gs ids fp Qs fuel listed st→wpAny Y.P .any ops Q fuel listed a w
 | 0,_,_,nu,_,_,h,hA=>⟨hA.1,hQ _ nu _ _ hA.2 h⟩
 | fuel+1,_,_,nu,_,_,h,hA=>⟨fun h0=>hQ _ nu _ _ (hA.1 h0) h,fun i hi=>by
   obtain ⟨ob,st',h1,h2,h3⟩:=hA.2 i hi
   exact ztn hY h h1 h2 fun nu' a' w' h'=>z0i hY hQ fuel _ _ nu' a' w' h' h3⟩
def Closed (ops:Array Oper) (listed:Array Bool):Prop :=
 ∀ j o,ops[j]?=some o→listed.getD j false=true→∀ e∈o.after,Region.binds .any e=true→listed.getD e.on false=true
def zahv (o:Oper) (acc:List Nat):Nat:=o.after.toList.foldl (fun s e=>if Region.binds .any e then s ||| (2 ^ e.on ||| acc.getD e.on 0) else s) 0
def zx4:List Oper→List Nat→List Nat
 | [],acc=>acc
 | o::l,acc=>zx4 l (acc++[zahv o acc])
theorem zto:∀ (l:List Oper) (acc:List Nat) (j:Nat),j < acc.length→(zx4 l acc).getD j 0=acc.getD j 0
 | [],acc,j,_=>rfl
 | o::l,acc,j,h=>by
  rw[zx4,zto l _ j (by simp;omega),yy0,List.getElem?_append_left h,← yy0]
theorem zadj:∀ (l:List Oper) (acc:List Nat) (j:Nat) (o:Oper),l[j]?=some o →
  ∃ acc',(zx4 l acc).getD (acc.length+j) 0=zahv o acc'∧acc'.length=acc.length+j∧∀ k,k < acc.length+j→acc'.getD k 0=(zx4 l acc).getD k 0
 | [],acc,j,o,h=>by simp at h
 | o'::l,acc,0,o,h=>by
  simp only[List.getElem?_cons_zero,yy1] at h
  subst h
  refine ⟨acc,?_,rfl,fun k hk=>(zto _ acc k (by simpa using hk)).symm⟩
  rw[zx4,zto l _ _ (by simp),yy0,List.getElem?_append_right (by simp)]
  simp
 | o'::l,acc,j+1,o,h=>by
  simp only[List.getElem?_cons_succ] at h
  obtain ⟨acc',h1,h2,h3⟩:=zadj l (acc++[zahv o' acc]) j o h
  simp only[yy6,List.length_cons,List.length_nil] at h1 h2 h3
  refine ⟨acc',?_,by omega,fun k hk=>?_⟩
  ·rw[zx4,← h1];congr 1;omega
  ·rw[zx4];exact h3 k (by omega)
theorem z49 (acc:List Nat) (i:Nat):∀ (es:List Edge) (s:Nat),(es.foldl (fun s e=>if Region.binds .any e then s ||| (2 ^ e.on ||| acc.getD e.on 0) else s) s).testBit i=true →
  s.testBit i=true∨∃ e∈es,Region.binds .any e=true∧(e.on=i∨(acc.getD e.on 0).testBit i=true)
 | [],s,h=>.inl h
 | e::es,s,h=>by
  rcases z49 acc i es _ h with h1 | ⟨e',h1,h2,h3⟩
  ·dsimp only at h1
   split at h1
   ·rename_i hb
    rw[Nat.testBit_or,Nat.testBit_or,Nat.testBit_two_pow] at h1
    simp only[Bool.or_eq_true,decide_eq_true_eq] at h1
    rcases h1 with h1 | h1 | h1
    ·exact .inl h1
    ·exact .inr ⟨e,by simp,hb,.inl h1⟩
    ·exact .inr ⟨e,by simp,hb,.inr h1⟩
   ·exact .inl h1
  ·exact .inr ⟨e',List.mem_cons_of_mem _ h1,h2,h3⟩
theorem zahw {j i:Nat} {o:Oper} (ho:ops[j]?=some o) (h:((zx4 ops.toList []).getD j 0).testBit i=true) :
  ∃ e∈o.after,Region.binds .any e=true∧(e.on=i∨(e.on < j∧((zx4 ops.toList []).getD e.on 0).testBit i=true)):=by
 obtain ⟨acc',h1,h2,h3⟩:=zadj ops.toList [] j o (by simpa using ho)
 simp only[List.length_nil,Nat.zero_add] at h1 h2 h3
 rw[h1] at h
 rcases z49 acc' i _ _ h with h4 | ⟨e,h4,h5,h6⟩
 ·simp at h4
 ·refine ⟨e,by simpa using h4,h5,h6.imp id fun h7=>?_⟩
  by_cases hlt:e.on < j
  ·exact ⟨hlt,by rw[← h3 e.on hlt];exact h7⟩
  ·rw[yy0,List.getElem?_eq_none (by omega)] at h7
   simp at h7
theorem zabj {listed:Array Bool} (hcl:Closed ops listed) {i:Nat}:∀ (j:Nat) (o:Oper),ops[j]?=some o→(∀ e∈o.after,Region.binds .any e=true→listed.getD e.on false=true) →
  ((zx4 ops.toList []).getD j 0).testBit i=true→listed.getD i false=true:=by
 intro j
 induction j using Nat.strongRecOn with
 | _ j ih =>
  intro o ho hp hm
  obtain ⟨e,h1,h2,h3⟩:=zahw ho hm
  rcases h3 with rfl | ⟨hlt,h3⟩
  ·exact hp e h1 h2
  ·cases ho':ops[e.on]? with
   | none =>
    have:ops.toList.length≤e.on:=by simpa using ho'
    have hj:j < ops.size:=(Array.getElem?_eq_some_iff.1 ho).1
    simp at this;omega
   | some o'=>exact ih e.on hlt o' ho' (fun e' he' hb'=>hcl e.on o' ho' (hp e h1 h2) e' he' hb') h3
theorem zae5 {listed:Array Bool} (hcl:Closed ops listed) {i:Nat} (hi:i∈Region.ready .any ops listed):Closed ops (listed.setIfInBounds i true):=by
 intro j o ho hl e he hb
 by_cases hij:i=j
 ·subst hij
  obtain ⟨_,o',ho',hall⟩:=mem_ready.1 hi
  rw[ho] at ho';cases ho'
  exact getD_set_true (hall e he hb)
 ·rw[Go.getD_set_ne false hij] at hl
  exact getD_set_true (hcl j o ho hl e he hb)
theorem z80 {Q:RSt→Prop} {i:Nat} {oi:Oper} (hoi:ops[i]?=some oi) {ob1:List Prop} (hob:zuz ob1) :
  ∀ (fuel:Nat) (listed:Array Bool) (st s1:RSt),Closed ops listed→i∈Region.ready .any ops listed →
   (∀ j oj,ops[j]?=some oj→j≠i→listed.getD j true=false→((zx4 ops.toList []).getD j 0).testBit i=true∨zzk (fp i) (fp j) oi.dst oj.dst=true) →
   zjx Y ops gs ids (fun i=>some (fp i)) i st=some (ob1,s1) →
   z8z Y ops gs ids fp Q fuel (listed.setIfInBounds i true) s1→z8z Y ops gs ids fp Q (fuel+1) listed st:=by
 intro fuel
 induction fuel with
 | zero =>
  intro listed st s1 hcl hi hap hs H
  refine ⟨fun h=>(by rw[h] at hi;cases hi),fun j hj=>?_⟩
  by_cases hji:j=i
  ·subst hji;exact ⟨ob1,s1,hs,hob,H⟩
  ·have:=ready_mono hj hji
   rw[H.1] at this;cases this
 | succ fuel ih =>
  intro listed st s1 hcl hi hap hs H
  refine ⟨fun h=>(by rw[h] at hi;cases hi),fun j hj=>?_⟩
  by_cases hji:j=i
  ·subst hji;exact ⟨ob1,s1,hs,hob,H⟩
  ·obtain ⟨ob2,s12,h1,h2,h3⟩:=H.2 j (ready_mono hj hji)
   obtain ⟨hj0,oj,hoj,hjall⟩:=mem_ready.1 hj
   obtain ⟨hi0,oi',hoi',hiall⟩:=mem_ready.1 hi
   have hapij:zzk (fp i) (fp j) oi.dst oj.dst=true:=by
    rcases hap j oj hoj hji hj0 with hm | hm
    ·have:=zabj hcl j oj hoj hjall hm
     have hlt:i < listed.size:=by
      rcases Nat.lt_or_ge i listed.size with h' | h'
      ·exact h'
      ·simp[Array.getElem?_eq_none h'] at this
     simp[hlt] at this hi0
     rw[this] at hi0;cases hi0
    ·exact hm
   obtain ⟨s2,h4,h5⟩:=zabi hoi hoj hapij hs h1
   refine ⟨ob2,s2,h4,h2,ih (listed.setIfInBounds j true) s2 s12 (zae5 hcl hj) (ready_mono hi (Ne.symm hji)) (fun k ok hk hki hl=>hap k ok hk hki ?_) h5 ?_⟩
   ·by_cases hkj:j=k
    ·subst hkj;exact hj0
    ·rw[Go.getD_set_ne true hkj] at hl;exact hl
   ·have hcomm:(listed.setIfInBounds j true).setIfInBounds i true=(listed.setIfInBounds i true).setIfInBounds j true:=by
     apply Array.ext_getElem?
     intro k
     simp only[Array.getElem?_setIfInBounds,Array.size_setIfInBounds]
     split<;>split<;>simp_all
    rw[hcomm];exact h3
def zahx (ops:Array Oper) (fp:Nat→FP):Bool :=
 (ops.toList.zipIdx.all fun p=>p.1.after.toList.all fun e => !Region.binds .any e||decide (e.on < p.2)) &&
 ops.toList.zipIdx.all fun p=>(ops.toList.zipIdx.take p.2).all fun q=>((zx4 ops.toList []).getD p.2 0).testBit q.2||zzk (fp q.2) (fp p.2) q.1.dst p.1.dst
theorem zae6 (h:zahx ops fp=true):(∀ (j:Nat) (o:Oper),ops[j]?=some o→∀ e∈o.after,Region.binds .any e=true→e.on < j) ∧
  ∀ (k j:Nat) (ok oj:Oper),k < j→ops[k]?=some ok→ops[j]?=some oj→((zx4 ops.toList []).getD j 0).testBit k=true∨zzk (fp k) (fp j) ok.dst oj.dst=true:=by
 unfold zahx at h
 simp only[yy7] at h
 obtain ⟨h1,h2⟩:=h
 have hmem:∀ (j:Nat) (o:Oper),ops[j]?=some o→(o,j)∈ops.toList.zipIdx:=by
  intro j o ho
  rw[List.mem_zipIdx_iff_getElem?]
  simpa using ho
 constructor
 ·intro j o ho e he hb
  have:=List.all_eq_true.1 (List.all_eq_true.1 h1 _ (hmem j o ho)) e (by simpa using he)
  simpa[hb] using this
 ·intro k j ok oj hkj hk hj
  have h3:=List.all_eq_true.1 h2 _ (hmem j oj hj)
  have hin:(ok,k)∈ops.toList.zipIdx.take j:=by
   have hz:ops.toList.zipIdx[k]?=some (ok,k):=by
    rw[List.getElem?_zipIdx];simp[hk]
   have:(ops.toList.zipIdx.take j)[k]?=some (ok,k):=by rw[List.getElem?_take_of_lt hkj];exact hz
   exact List.mem_of_getElem? this
  have:=List.all_eq_true.1 h3 _ hin
  simpa using this
theorem z5a (hlex:zahx ops fp=true) {Q:RSt→Prop}:∀ (m k:Nat) (listed:Array Bool) (st st':RSt) (ob:List Prop),k+m=ops.size→listed.size=ops.size →
  (∀ j,j < ops.size→listed.getD j true=decide (j < k))→zr6 Y ops gs ids (fun i=>some (fp i)) (List.range' k m) st=some (ob,st')→zuz ob→Q st'→z8z Y ops gs ids fp Q m listed st
 | 0,k,listed,st,st',ob,hk,hsz,hl,hr,_,hQ=>by
  simp only[List.range'_zero,zr6,yy1,Prod.mk.injEq] at hr
  obtain ⟨_,rfl⟩:=hr
  refine ⟨?_,hQ⟩
  cases hrd:Region.ready .any ops listed with
  | nil=>rfl
  | cons j l =>
   have hj:j∈Region.ready .any ops listed:=by rw[hrd];simp
   obtain ⟨h0,o,ho,_⟩:=mem_ready.1 hj
   have hlt:j < ops.size:=(Array.getElem?_eq_some_iff.1 ho).1
   rw[hl j hlt] at h0
   simp at h0;omega
 | m+1,k,listed,st,st',ob,hk,hsz,hl,hr,hob,hQ=>by
  obtain ⟨hedge,hpair⟩:=zae6 hlex
  rw[List.range'_succ] at hr
  simp only[zr6] at hr
  split at hr
  ·rename_i ob1 s1 h1
   split at hr
   ·rename_i ob2 s2 h2
    simp only[yy1,Prod.mk.injEq] at hr
    obtain ⟨rfl,rfl⟩:=hr
    obtain ⟨o1,o2⟩:=zwq hob
    have hklt:k < ops.size:=by omega
    have hok:ops[k]?=some ops[k]:=Array.getElem?_eq_getElem hklt
    have hfalse:∀ j,j < ops.size→listed.getD j false=decide (j < k):=by
     intro j hj
     rw[← hl j hj]
     have:j < listed.size:=by omega
     simp[this]
    have hcl:Closed ops listed:=by
     intro j o ho hlj e he hb
     have hj:j < ops.size:=(Array.getElem?_eq_some_iff.1 ho).1
     have he':=hedge j o ho e he hb
     rw[hfalse j hj] at hlj
     rw[hfalse e.on (by omega)]
     simp at hlj ⊢;omega
    have hready:k∈Region.ready .any ops listed:=mem_ready.2 ⟨by rw[hl k hklt];simp,ops[k],hok,fun e he hb=>by
     have he':=hedge k _ hok e he hb
     rw[hfalse e.on (by omega)];simp;omega⟩
    refine z80 hok o1 m listed st s1 hcl hready (fun j oj hj hjk hlj=>?_) h1 ?_
    ·have hjlt:j < ops.size:=(Array.getElem?_eq_some_iff.1 hj).1
     rw[hl j hjlt] at hlj
     exact hpair k j _ oj (by simp at hlj;omega) hok hj
    ·refine z5a hlex m (k+1) _ s1 s2 ob2 (by omega) (by simpa using hsz) (fun j hj=>?_) h2 o2 hQ
     by_cases hkj:k=j
     ·subst hkj
      have:k < listed.size:=by omega
      simp[this]
     ·rw[Go.getD_set_ne true hkj,hl j hj]
      simp;omega
   ·cases hr
  ·cases hr
theorem zabk (hY:Y.Ok) (hm:Y.P.follows .mixedOrders=true) (hlex:zahx ops fp=true) {G:Gl} {st st':RSt} {nu:Nat→Option Value} {a:Act} {w:World} {ob:List Prop} {id:Nat} {Q:Exit→Act→World→Prop}
  (h:RInv G gs st nu a w) (hr:zr6 Y ops gs ids (fun i=>some (fp i)) (List.range ops.size) st=some (ob,st')) (hob:zuz ob) (hQ:∀ nu' a' w',RInv G gs st' nu' a' w'→Q .normal a' w') :
  (Code.region id ops true).wp Y.P Q a w:=by
 refine wp_region_any hm ?_
 have hd:RInv G gs st nu a w.drew:=by
  obtain ⟨h1,h2⟩:=h.mem.of_same (w':=w.drew) rfl rfl rfl rfl
  exact ⟨h2,h.size,h.defers,fun d hd=>(h.slots d hd).mono h1 (fun _ _ h=>h)⟩
 rw[List.range_eq_range'] at hr
 exact z0i hY (Qs:=fun s=>s=st') (fun s nu a w hs hi=>hQ nu a w (hs ▸ hi)) ops.size (Array.replicate ops.size false) st nu a w.drew hd
  (z5a hlex ops.size 0 _ st st' ob (by simp) (by simp) (fun j hj=>by simp[hj]) hr hob rfl)
end
mutual
def AV.clear (p:Nat→Bool):AV→Bool
 | .any=>true
 | .val _=>true
 | .agg cs=>AV.clearL p cs
 | .tup cs=>AV.clearL p cs
 | .sl _=>true
 | .own j => !p j
 | .ptr j _ => !p j
 | .eptr _ _ _=>true
 | .pix j _ _ _ => !p j
 | .rptr j _ _ _ => !p j
 | .rpix j _ _ _ _ => !p j
 | .iface _ j => !p j
 | .win j _ _ => !p j
 | .fn _ cs=>AV.clearL p cs
 | .mp _=>true
 | .nst j _ => !p j
def AV.clearL (p:Nat→Bool):List AV→Bool
 | []=>true
 | x::l=>AV.clear p x&&AV.clearL p l
end
theorem zq9 {p:Nat→Bool}:∀ {cs:List AV},AV.clearL p cs=true→∀ i,i < cs.length→(cs.getD i .any).clear p=true
 | [],_,i,hi=>absurd hi (Nat.not_lt_zero i)
 | x::l,h,0,_=>by
  simp only[AV.clearL,yy7] at h
  exact h.1
 | x::l,h,i+1,hi=>by
  simp only[AV.clearL,yy7] at h
  have:=zq9 h.2 i (by simpa using hi)
  simpa using this
theorem zfo (p:Nat→Bool) (s:Sl) (k c:Nat) (hc:c < s.sz):(s.cell k c).clear p=true:=by
 have h:∀ (s:Sl) (k:Nat),AV.clearL p (s.row k)=true:=by
  intro s k
  cases s<;>simp[Sl.row,AV.clearL,AV.clear,Power.cells,Packet.cells,Wait.cells,Asked.cells,Ripe.cells,Deed.cells,Reply.cells,Order.cells,Carry.cells]
 exact zq9 (h s k) c (by rw[Sl.row_length];exact hc)
theorem Rd.change {C C':Cx} {p:Nat→Bool} (hcell:∀ a v,¬ C.L a.block→C.w.cell? a=some v→C'.w.cell? a=some v∧¬ C'.L a.block)
  (hnu:∀ j u,p j=false→C.nu j=some u→C'.nu j=some u) {x:AV} {v:Value} (h:Rd C x v) (hx:x.clear p=true):Rd C' x v:=by
 induction h with
 | any=>exact .any
 | val=>exact .val
 | agg hl _ ih=>exact .agg hl fun i hi=>ih i hi (zq9 hx i hi)
 | tup hl _ ih=>exact .tup hl fun i hi=>ih i hi (zq9 hx i hi)
 | fn hl _ ih=>exact .fn hl fun i hi=>ih i hi (zq9 hx i hi)
 | slnil h0=>exact .slnil h0
 | @sl s a cap g hm hc hcl hL _ ih =>
  refine .sl a cap g hm hc (fun k c hk hcc=>(hcell _ _ ?_ (hcl k c hk hcc)).1) (fun h0=>?_) (fun k c hk hc=>ih k c hk hc (zfo p s k c hc))
  ·rw[zan];exact hL (by omega)
  ·have:=(hcell _ _ (by rw[zan];exact hL h0) (hcl 0 0 h0 (zpl s))).2
   rwa [zan] at this
 | @own j v h=>exact .own (hnu _ _ (by simpa[AV.clear] using hx) h)
 | @ptr j off b h=>exact .ptr (hnu _ _ (by simpa[AV.clear] using hx) h)
 | pix h hi=>exact .pix (hnu _ _ (by simpa[AV.clear] using hx) h) hi
 | rptr h hi=>exact .rptr (hnu _ _ (by simpa[AV.clear] using hx) h) hi
 | rpix h hi hb=>exact .rpix (hnu _ _ (by simpa[AV.clear] using hx) h) hi hb
 | iface h=>exact .iface (hnu _ _ (by simpa[AV.clear] using hx) h)
 | win h=>exact .win (hnu _ _ (by simpa[AV.clear] using hx) h)
 | nst h hr=>exact .nst (hnu _ _ (by simpa[AV.clear] using hx) h) hr
 | @eptr s k off a g hs hL hcl hrd ih =>
  refine .eptr a g hs (fun h0=>?_) (fun c hc=>(hcell _ _ ?_ (hcl c hc)).1) (fun c hc=>ih c hc (zfo p s k _ hc))
  ·have:=(hcell _ _ (by rw[zan];exact hL h0) (hcl 0 (by omega))).2
   rwa [zan] at this
  ·rw[zan];exact hL (by omega)
theorem zakt (q:Nat→Bool) (m:Mp):∀ p,p∈m.ents→p.2.clear q=true:=by
 intro p hp
 cases m<;>simp only[Mp.ents,List.mem_map] at hp<;>obtain ⟨a,-,rfl⟩:=hp<;>simp[AV.clear,AV.clearL,n6A,Wait.cells]
theorem MapRd.change {C C':Cx} (hcell:∀ a v,¬ C.L a.block→C.w.cell? a=some v→C'.w.cell? a=some v∧¬ C'.L a.block) {m:Mp} {es:Array MapEntry} {clock:Nat} (h:MapRd C m es clock):MapRd C' m es clock :=
 ⟨h.1,fun k e p h1 h2=>⟨(h.2.1 k e p h1 h2).1,(h.2.1 k e p h1 h2).2.change (p:=fun _=>true) hcell (fun i u hi=>by cases hi) (zakt _ m p (List.mem_of_getElem? h2))⟩,h.2.2⟩
def lk:List (Nat×AV)→Nat→AV
 | [],_=>.any
 | p::l,d=>if d=p.1 then p.2 else lk l d
structure St where
 n:Nat
 sl:List (Nat×AV)
 blks:List Blk
def SV.out:SV→AV
 | .plain x=>x
 | .cond _ _=>.any
def St.slot (st:St) (d:Nat):AV:=if d < st.n then lk st.sl d else .any
def St.blk (st:St) (j:Nat):Blk:=st.blks.getD j .dead
structure NInv (G:Gl) (st:St) (nu:Nat→Option Value) (a:Act) (w:World):Prop where
 mem:MInv G st.blks nu w
 size:a.tmps.size=st.n
 defers:a.defers=[]
 slots:∀ d,d < st.n→Rd (cx G st.blks nu w) (st.slot d) (a.tmps.getD d undef)
def Inv (G:Gl) (st:St) (a:Act) (w:World):Prop:=∃ nu,NInv G st nu a w
theorem zlx {α β:Type} (f:α→β) (l:List α) (i:Nat) (d:α) (e:β) (h:i < l.length):(l.map f).getD i e=f (l.getD i d):=by
 simp[yy0,yy3 h]
theorem zadd (f:Nat→AV):∀ (l:List Nat) (d:Nat),lk (l.map fun d=>(d,f d)) d=if d∈l then f d else .any
 | [],d=>by simp[lk]
 | x::l,d=>by
  simp only[List.map_cons,lk,List.mem_cons]
  by_cases h:d=x
  ·subst h;simp
  ·rw[if_neg h,zadd f l d]
   simp[h]
theorem zahp (g:AV→AV) (hg:g .any=.any):∀ (l:List (Nat×AV)) (d:Nat),lk (l.map fun p=>(p.1,g p.2)) d=g (lk l d)
 | [],d=>hg.symm
 | p::l,d=>by
  simp only[List.map_cons,lk]
  split
  ·rfl
  ·exact zahp g hg l d
def St.enter (gs:List Nat) (st:St):RSt:=⟨(List.range st.n).map (fun d=>if gs.contains d then .plain .any else .plain (st.slot d)),st.blks⟩
theorem NInv.enter {G:Gl} {st:St} {nu:Nat→Option Value} {a:Act} {w:World} (h:NInv G st nu a w) (gs:List Nat):RInv G gs (st.enter gs) nu a w:=by
 refine ⟨h.mem,by simpa[St.enter] using h.size,h.defers,fun d hd=>?_⟩
 have hd':d < st.n:=by simpa[St.enter] using hd
 have e:(st.enter gs).slot d=if gs.contains d then .plain .any else .plain (st.slot d):=by
  show List.getD _ _ _=_
  rw[St.enter,yy0,List.getElem?_map,List.getElem?_range hd']
  rfl
 rw[e]
 split
 ·exact Rd.any
 ·exact h.slots d hd'
def RSt.tidy (n:Nat) (live:List Nat) (r:RSt):St:=⟨n,live.map (fun d=>(d,(r.slot d).out)),r.blks⟩
theorem RInv.tidy {G:Gl} {gs:List Nat} {r:RSt} {nu:Nat→Option Value} {a:Act} {w:World} (h:RInv G gs r nu a w) {n:Nat} (hn:r.slots.length=n) (live:List Nat):NInv G (r.tidy n live) nu a w:=by
 subst hn
 refine ⟨h.mem,h.size,h.defers,fun d hd=>?_⟩
 have e:(r.tidy r.slots.length live).slot d=if d∈live then (r.slot d).out else .any:=(if_pos hd).trans (zadd _ _ _)
 rw[e]
 split
 ·have hs:=h.slots d hd
  cases hx:r.slot d with
  | plain x=>rw[hx] at hs;exact hs
  | cond t x=>exact Rd.any
 ·exact .any
def Wp (Y:Env) (G:Gl) (c:Code) (st:St) (Q:Exit→St→Prop):Prop :=
 ∀ a w,Inv G st a w→c.wp Y.P (fun e a' w'=>∃ st',Q e st'∧Inv G st' a' w') a w
def zayu (k:St→Prop) (Q:Exit→St→Prop):Exit→St→Prop
 | .normal,s=>k s
 | e,s=>Q e s
def zahq (id:Nat) (Q:Exit→St→Prop):Exit→St→Prop
 | .exit id',s=>if id'=id then Q .normal s else Q (.exit id') s
 | e,s=>Q e s
section rules
variable {Y:Env} {G:Gl} {st:St} {Q:Exit→St→Prop}
theorem zasx {x y:Code} (h:Wp Y G x st (zayu (fun s=>Wp Y G y s Q) Q)):Wp Y G (.seq x y) st Q:=by
 intro a w hi
 refine wp_seq (wp_mono (h a w hi) fun e a' w' hq=>?_)
 obtain ⟨st',h1,h2⟩:=hq
 cases e<;>first
  | exact h1 a' w' h2
  | exact ⟨st',h1,h2⟩
theorem zaku {id:Nat} {c:Code} (h:Wp Y G c st (zahq id Q)):Wp Y G (.block id c) st Q:=by
 intro a w hi
 refine wp_block (wp_mono (h a w hi) fun e a' w' hq=>?_)
 obtain ⟨st',h1,h2⟩:=hq
 cases e with
 | exit id' =>
  simp only[Exit.inBlock]
  simp only[zahq] at h1
  split
  ·rename_i he;rw[if_pos he] at h1;exact ⟨st',h1,h2⟩
  ·rename_i he;rw[if_neg he] at h1;exact ⟨st',h1,h2⟩
 | _=>exact ⟨st',h1,h2⟩
theorem zao7 (h:Q .normal st):Wp Y G .skip st Q:=fun _ _ hi=>wp_skip ⟨st,h,hi⟩
theorem zasy (h:Q .ret st):Wp Y G .ret st Q:=fun _ _ hi=>wp_ret ⟨st,h,hi⟩
theorem zao8 {id:Nat} (h:Q (.exit id) st):Wp Y G (.exit id) st Q:=fun _ _ hi=>wp_exit ⟨st,h,hi⟩
theorem zao9 {c:Operand} {x y:Code} (b:Bool) (hc:(match c with | .tmp d=>st.slot d | .const v=>.val v | _=>.any)=.val (.bool b)) (ht:b=true→Wp Y G x st Q) (hf:b=false→Wp Y G y st Q) :
  Wp Y G (.cond c x y) st Q:=by
 intro a w hi
 have hv:a.eval c=.bool b:=by
  obtain ⟨nu,hn⟩:=hi
  cases c with
  | tmp d =>
   simp only at hc
   by_cases hd:d < st.n
   ·have:=hn.slots d hd
    rw[hc] at this
    simp only[Act.eval]
    generalize a.tmps.getD d undef=v at this
    cases this;rfl
   ·have:st.slot d=.any:=if_neg hd
    rw[this] at hc;cases hc
  | const v=>simp only[AV.val.injEq] at hc;exact hc
  | global g=>cases hc
  | func f=>cases hc
 exact wp_cond_split hv (fun e=>ht e a w hi) (fun e=>hf e a w hi)
theorem zahr {c:Code} {Q':Exit→St→Prop} (h:Wp Y G c st Q) (hq:∀ e s,Q e s→Q' e s):Wp Y G c st Q' :=
 fun a w hi=>wp_mono (h a w hi) fun _ _ _ ⟨s,h1,h2⟩=>⟨s,hq _ _ h1,h2⟩
def zade (P:Program) (st:St):ResultVar→Option AV
 | .tmp t=>some (st.slot t)
 | .cell p T=>match st.slot p,zi P (isAgg T),zi P (sizeOf T) with
  | .ptr j off,some t,some n=>match st.blk j with
   | .cells _ cs=>if ((cs.drop off).take n).length=n∧(t=true∨n=1) then some (zm8 t ((cs.drop off).take n)) else none
   | _=>none
  | _,_,_=>none
def zxz (P:Program) (st:St):List ResultVar→Option (List AV)
 | []=>some []
 | r::l=>match zade P st r,zxz P st l with
  | some x,some xs=>some (x::xs)
  | _,_=>none
def tuple:List AV→AV
 | [x]=>x
 | l=>.tup l
def z8q (tmps:Array Value):ResultVar→Sem Value
 | .tmp t=>pure (tmps.getD t undef)
 | .cell p T=>do loadVar T (← asAddr (tmps.getD p undef))
theorem zaey {nu:Nat→Option Value} {a:Act} {w:World} (h:NInv G st nu a w) {r:ResultVar} {x:AV} (hr:zade Y.P st r=some x) :
  ∃ v,(z8q a.tmps r).run Y.P w=.ok v w∧Rd (cx G st.blks nu w) x v:=by
 have slot:∀ d,Rd (cx G st.blks nu w) (st.slot d) (a.tmps.getD d undef):=by
  intro d
  by_cases hd:d < st.n
  ·exact h.slots d hd
  ·have:st.slot d=.any:=if_neg hd
   rw[this];exact .any
 cases r with
 | tmp t =>
  simp only[zade,yy1] at hr
  subst hr
  exact ⟨_,rfl,slot t⟩
 | cell p T =>
  simp only[zade] at hr
  split at hr
  ·rename_i j off t n hp ht hn
   split at hr
   ·rename_i U cs hb
    split at hr
    ·rename_i hc
     simp only[yy1] at hr
     subst hr
     have hs:=slot p
     rw[hp] at hs
     have hk:=h.mem.ok j
     have hb':st.blks.getD j .dead=.cells U cs:=hb
     rw[hb'] at hk
     obtain ⟨b,vs,e1,e2,e3⟩:=hk
     generalize hv:a.tmps.getD p undef=v at hs
     cases hs with
     | @ptr _ _ b' e4 =>
      have:b=b':=by have:=e1.symm.trans e4;simpa using this
      subst this
      have h1:t=false→n=1:=fun ht=>hc.2.resolve_left (by simp[ht])
      have hr:Rds (cx G st.blks nu w) ((cs.drop off).take n) ((vs.drop off).take n):=(e3.drop off).take n
      have hrun:=zb8 (w:=w) ht hn ⟨b,off,none⟩ ((vs.drop off).take n) (by rw[hr.1];exact hc.1) h1 (fun i v hi=>by
       rw[z7,cell_of_row w b (off+i) vs.toArray U (0,0) e2]
       have hin:i < n:=by have:=(List.getElem?_eq_some_iff.1 hi).1;simp at this;omega
       rw[List.getElem?_take_of_lt hin,List.getElem?_drop] at hi
       simpa using hi)
      refine ⟨_,?_,zic hr (fun ht=>by rw[hc.1];exact h1 ht)⟩
      simp only[z8q,hv,asAddr,Sem.run_bind,Sem.run_pure',Sem.run_pure,Result.andThen_ok,hrun]
    ·cases hr
   ·cases hr
  ·cases hr
theorem z41 {nu:Nat→Option Value} {a:Act} {w:World} (h:NInv G st nu a w):∀ {l:List ResultVar} {xs:List AV},zxz Y.P st l=some xs →
  ∃ vs,(l.mapM (z8q a.tmps)).run Y.P w=.ok vs w∧Rds (cx G st.blks nu w) xs vs
 | [],xs,hr=>by
  simp only[zxz,yy1] at hr
  subst hr
  exact ⟨[],rfl,.nil⟩
 | r::l,xs,hr=>by
  simp only[zxz] at hr
  split at hr
  ·rename_i x xs' h1 h2
   simp only[yy1] at hr
   subst hr
   obtain ⟨v,e1,e2⟩:=zaey h h1
   obtain ⟨vs,e3,e4⟩:=z41 h h2
   exact ⟨v::vs,by simp[List.mapM_cons,e1,e3],.cons e2 e4⟩
  ·cases hr
theorem zaa6 {nu:Nat→Option Value} {a:Act} {w:World} (h:NInv G st nu a w) {fn:Func} {xs:List AV} (hr:zxz Y.P st fn.results.toList=some xs) :
  ∃ v,(results fn a.tmps).run Y.P w=.ok v w∧Rd (cx G st.blks nu w) (tuple xs) v:=by
 obtain ⟨vs,e1,e2⟩:=z41 h hr
 have e3:(results fn a.tmps).run Y.P w=.ok (if h:vs.toArray.size=1 then vs.toArray[0] else .tuple vs.toArray) w:=by
  have:results fn a.tmps=(do let vs ← fn.results.mapM (z8q a.tmps);pure (if h:vs.size=1 then vs[0] else .tuple vs)):=by
   unfold results z8q
   congr 1
  rw[this,Array.mapM_eq_mapM_toList]
  simp[e1]
 refine ⟨_,e3,?_⟩
 cases xs with
 | nil =>
  have:=e2.unnil
  subst this
  exact .tup rfl (fun i hi=>absurd hi (Nat.not_lt_zero i))
 | cons x xs =>
  obtain ⟨v,vs',rfl,e4,e5⟩:=e2.uncons
  cases xs with
  | nil =>
   have:=e5.unnil
   subst this
   simpa[tuple] using e4
  | cons y ys =>
   obtain ⟨u,us,rfl,e6,e7⟩:=e5.uncons
   rw[dif_neg (by simp)]
   exact .tup e2.1 e2.2
end rules
def zasz (x:AV):Bool:=x.clear fun _=>true
