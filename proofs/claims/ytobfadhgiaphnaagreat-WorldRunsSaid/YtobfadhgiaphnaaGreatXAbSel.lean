/-
  The walk over abstract states.
-/
import Derived.Test.YtobfadhgiaphnaaGreatXAbRow
import Derived.Laws.BytesArg
import Derived.Laws.IdiomStrings
import Derived.Laws.Slices
namespace Go.Proofs.YtobfadhgiaphnaaGreat.Ab
open Go Go.RowKit
set_option linter.unusedSimpArgs false
set_option linter.unusedVariables false
def Sl.ite (c:Prop) [Decidable c]:Sl→Sl→Option Sl
 | .ints l,.ints m=>some (.ints (if c then l else m))
 | .strs l,.strs m=>some (.strs (if c then l else m))
 | .bytes l,.bytes m=>some (.bytes (if c then l else m))
 | .powers l,.powers m=>some (.powers (if c then l else m))
 | .packets l,.packets m=>some (.packets (if c then l else m))
 | .waits l,.waits m=>some (.waits (if c then l else m))
 | .asked l,.asked m=>some (.asked (if c then l else m))
 | .ripes l,.ripes m=>some (.ripes (if c then l else m))
 | .deeds l,.deeds m=>some (.deeds (if c then l else m))
 | .replies l,.replies m=>some (.replies (if c then l else m))
 | .orders l,.orders m=>some (.orders (if c then l else m))
 | .carries l,.carries m=>some (.carries (if c then l else m))
 | .intss l,.intss m=>some (.intss (if c then l else m))
 | _,_=>none
theorem Sl.ite_spec {c:Prop} [Decidable c] {s t r:Sl} (h:s.ite c t=some r):(c→r=s)∧(¬ c→r=t):=by
 cases s<;>cases t<;>simp only[Sl.ite,yy1,reduceCtorEq] at h<;>subst h<;>exact ⟨fun hc=>by rw[if_pos hc],fun hc=>by rw[if_neg hc]⟩
theorem zaqv (s:Sl):s.empty.len=0:=by cases s<;>rfl
def ifAV (c:Prop) [Decidable c]:AV→AV→Option AV
 | .val (.int k a),.val (.int k' b)=>if k=k' then some (.val (.int k (if c then a else b))) else none
 | .val (.bool a),.val (.bool b)=>some (.val (.bool (if c then a else b)))
 | .val (.string a),.val (.string b)=>some (.val (.string (if c then a else b)))
 | .sl s,.sl t=>match s.ite c t with
  | some r=>some (.sl r)
  | none=>none
 | .sl s,.val (.slice none 0 0)=>match s.ite c s.empty with
  | some r=>some (.sl r)
  | none=>none
 | .val (.slice none 0 0),.sl t=>match t.empty.ite c t with
  | some r=>some (.sl r)
  | none=>none
 | .val (.slice none 0 0),.val (.slice none 0 0)=>some (.val (.slice none 0 0))
 | _,_=>none
theorem zays {C:Cx} {v:Value} {s:Sl} (h:Rd C (.val (.slice none 0 0)) v):Rd C (.sl s.empty) v:=by
 cases h;exact .slnil (zaqv s)
theorem zafr {C:Cx} {c:Prop} [Decidable c] {x y z:AV} (h:ifAV c x y=some z) {v:Value}:(c→Rd C x v→Rd C z v)∧(¬ c→Rd C y v→Rd C z v):=by
 unfold ifAV at h
 split at h
 ·split at h
  ·rename_i e
   simp only[yy1] at h
   subst h;subst e
   exact ⟨fun hc=>by rw[if_pos hc];exact id,fun hc=>by rw[if_neg hc];exact id⟩
  ·cases h
 ·simp only[yy1] at h
  subst h
  exact ⟨fun hc=>by rw[if_pos hc];exact id,fun hc=>by rw[if_neg hc];exact id⟩
 ·simp only[yy1] at h
  subst h
  exact ⟨fun hc=>by rw[if_pos hc];exact id,fun hc=>by rw[if_neg hc];exact id⟩
 ·split at h
  ·rename_i r hr
   simp only[yy1] at h
   subst h
   obtain ⟨h1,h2⟩:=Sl.ite_spec hr
   exact ⟨fun hc=>by rw[h1 hc];exact id,fun hc=>by rw[h2 hc];exact id⟩
  ·cases h
 ·split at h
  ·rename_i r hr
   simp only[yy1] at h
   subst h
   obtain ⟨h1,h2⟩:=Sl.ite_spec hr
   exact ⟨fun hc=>by rw[h1 hc];exact id,fun hc=>by rw[h2 hc];exact zays⟩
  ·cases h
 ·split at h
  ·rename_i r hr
   simp only[yy1] at h
   subst h
   obtain ⟨h1,h2⟩:=Sl.ite_spec hr
   exact ⟨fun hc=>by rw[h1 hc];exact zays,fun hc=>by rw[h2 hc];exact id⟩
  ·cases h
 ·simp only[yy1] at h
  subst h
  exact ⟨fun _=>id,fun _=>id⟩
 ·cases h
def zaqw (i:Int):Nat→List AV→Option AV
 | _,[]=>none
 | k,x::l=>match l with
  | []=>some x
  | _::_=>match zaqw i (k+1) l with
   | some r=>ifAV (i=(k:Int)) x r
   | none=>none
theorem zamg {C:Cx} {i:Int} {v:Value}:∀ {l:List AV} {k:Nat} {z:AV},zaqw i k l=some z→∀ q:Nat,(k:Int)+(q:Int)=i→q < l.length→Rd C (l.getD q .any) v→Rd C z v
 | [],k,z,h,q,hq,hl,_=>by cases h
 | [x],k,z,h,q,hq,hl,hr=>by
  simp only[zaqw,yy1] at h
  subst h
  have:q=0:=by simp at hl;omega
  subst this;exact hr
 | x::y::l,k,z,h,q,hq,hl,hr=>by
  rw[zaqw] at h
  split at h
  ·rename_i r hrr
   cases q with
   | zero=>exact (zafr h).1 (by omega) hr
   | succ q =>
    refine (zafr h).2 (by omega) (zamg hrr q (by omega) (by simpa using hl) ?_)
    simpa using hr
  ·cases h
def z6v {α:Type}:List (Option α)→Option (List α)
 | []=>some []
 | x::l=>match x,z6v l with
  | some a,some as=>some (a::as)
  | _,_=>none
theorem z29 {α:Type}:∀ {l:List (Option α)} {as:List α},z6v l=some as→as.length=l.length∧∀ q,q < l.length→∀ d,l.getD q none=some (as.getD q d)
 | [],as,h=>by
  simp only[z6v,yy1] at h
  subst h;exact ⟨rfl,fun q hq=>absurd hq (Nat.not_lt_zero q)⟩
 | x::l,as,h=>by
  simp only[z6v] at h
  split at h
  ·rename_i a as' h2
   simp only[yy1] at h
   subst h
   obtain ⟨k1,k2⟩:=z29 h2
   refine ⟨by simp[k1],fun q hq d=>?_⟩
   cases q with
   | zero=>rfl
   | succ q=>simpa using k2 q (by simpa using hq) d
  ·cases h
def zad1 (cs:List AV):List (Nat×Nat×Int)→Nat→Option AV
 | [],o=>cs[o]?
 | (len,stride,i)::l,o=>match z6v ((List.range len).map fun k=>zad1 cs l (o+k*stride)) with
  | some xs=>zaqw i 0 xs
  | none=>none
theorem pickAV_rd {C:Cx} {cs:List AV} {vs:List Value} (hr:Rds C cs vs):∀ {ix:List (Nat×Nat×Int)} {o:Nat} {z:AV},zad1 cs ix o=some z→inB ix→∃ v,vs[o+ixN ix]?=some v∧Rd C z v
 | [],o,z,h,_=>by
  obtain ⟨v,h1,h2⟩:=hr.get o z h
  exact ⟨v,h1,h2⟩
 | (len,stride,i)::l,o,z,h,hb=>by
  obtain ⟨⟨h0,h1⟩,h2⟩:=hb
  simp only at h0 h1
  simp only[zad1] at h
  split at h
  ·rename_i xs hxs
   obtain ⟨k1,k2⟩:=z29 hxs
   rw[List.length_map,List.length_range] at k1 k2
   have hq:i.toNat < len:=by omega
   have h3:=k2 i.toNat hq .any
   rw[getD_map' (fun k=>zad1 cs l (o+k*stride)) _ _ 0 none (by simpa using hq),yy0,List.getElem?_range hq] at h3
   obtain ⟨v,h4,h5⟩:=pickAV_rd hr h3 h2
   refine ⟨v,?_,zamg h i.toNat (by omega) (by omega) h5⟩
   rw[← h4]
   congr 1
   simp only[ixN,yy2]
   omega
  ·cases h
where
 getD_map' {α β:Type} (f:α→β) (l:List α) (i:Nat) (d:α) (e:β) (h:i < l.length):(l.map f).getD i e=f (l.getD i d):=by
  simp[yy0,yy3 h]
def updR (f:Nat→List AV→Option (List AV)):List Nat→List AV→Option (List AV)
 | [],cs=>some cs
 | k::ks,cs=>match f k cs with
  | some cs'=>updR f ks cs'
  | none=>none
def updC (f:AV→Option AV):List (Nat×Nat×Int)→Nat→List AV→Option (List AV)
 | [],o,cs=>match cs[o]? with
  | some old=>match f old with
   | some x=>some (cs.set o x)
   | none=>none
  | none=>none
 | (len,stride,i)::l,o,cs=>updR (fun k cs=>updC (fun old=>match f old with
   | some x=>ifAV (i=(k:Int)) x old
   | none=>none) l (o+k*stride) cs) (List.range len) cs
theorem zaqx {C:Cx} {val:Value}:∀ {ix:List (Nat×Nat×Int)} {f:AV→Option AV} {o:Nat} {cs cs':List AV} {vs:List Value} {p:Prop},
  (∀ old u x,f old=some x→Rd C old u→(p→Rd C x val)∧(¬ p→Rd C x u))→updC f ix o cs=some cs'→inB ix→Rds C cs vs →
  (p→Rds C cs' (vs.set (o+ixN ix) val))∧(¬ p→Rds C cs' vs)
 | [],f,o,cs,cs',vs,p,hf,h,_,hr=>by
  simp only[updC] at h
  split at h
  ·rename_i old ho
   split at h
   ·rename_i x hx
    simp only[yy1] at h
    subst h
    obtain ⟨u,hu,hru⟩:=hr.get o old ho
    obtain ⟨h1,h2⟩:=hf old u x hx hru
    refine ⟨fun hp=>hr.set o (h1 hp),fun hp=>?_⟩
    have:=hr.set o (h2 hp)
    have hlt:o < vs.length:=(List.getElem?_eq_some_iff.1 hu).1
    have e:vs.set o u=vs:=by
     rw[yy3 hlt] at hu
     simp only[yy1] at hu
     rw[← hu,List.set_getElem_self]
    rwa [e] at this
   ·cases h
  ·cases h
 | (len,stride,i)::l,f,o,cs,cs',vs,p,hf,h,hb,hr=>by
  obtain ⟨⟨h0,h1⟩,h2⟩:=hb
  simp only at h0 h1
  simp only[updC] at h
  have main:∀ (n k:Nat) (cs cs':List AV) (vs:List Value),k+n=len→updR (fun k cs=>updC (fun old=>match f old with
   | some x=>ifAV (i=(k:Int)) x old
   | none=>none) l (o+k*stride) cs) (List.range' k n) cs=some cs'→Rds C cs vs →
   (p∧k≤i.toNat→Rds C cs' (vs.set (o+i.toNat*stride+ixN l) val))∧(¬ (p∧k≤i.toNat)→Rds C cs' vs):=by
   intro n
   induction n with
   | zero =>
    intro k cs cs' vs hk hu hr
    simp only[List.range'_zero,updR,yy1] at hu
    subst hu
    exact ⟨fun ⟨_,hc⟩=>by omega,fun _=>hr⟩
   | succ n ih =>
    intro k cs cs' vs hk hu hr
    rw[List.range'_succ] at hu
    simp only[updR] at hu
    split at hu
    ·rename_i cs1 hcs1
     have hstep:=zaqx (ix:=l) (p:=p∧i=(k:Int)) (C:=C) (val:=val) (fun old u x hx hru=>by
      split at hx
      ·rename_i x' hx'
       obtain ⟨q1,q2⟩:=hf old u x' hx' hru
       obtain ⟨r1,r2⟩:=zafr (C:=C) hx (v:=val)
       obtain ⟨r3,r4⟩:=zafr (C:=C) hx (v:=u)
       refine ⟨fun ⟨hp,hi⟩=>r1 hi (q1 hp),fun hn=>?_⟩
       by_cases hi:i=(k:Int)
       ·exact r3 hi (q2 (fun hp=>hn ⟨hp,hi⟩))
       ·exact r4 hi hru
      ·cases hx) hcs1 h2 hr
     by_cases hi:i=(k:Int)
     ·have hik:i.toNat=k:=by omega
      by_cases hp:p
      ·have h5:=ih (k+1) cs1 cs' _ (by omega) hu (hstep.1 ⟨hp,hi⟩)
       have h6:=h5.2 (fun ⟨_,hc⟩=>by omega)
       refine ⟨fun _=>by rw[hik];exact h6,fun hn=>absurd ⟨hp,by omega⟩ hn⟩
      ·have h5:=ih (k+1) cs1 cs' _ (by omega) hu (hstep.2 (fun hc=>hp hc.1))
       exact ⟨fun hc=>absurd hc.1 hp,fun _=>h5.2 (fun hc=>hp hc.1)⟩
     ·have h5:=ih (k+1) cs1 cs' _ (by omega) hu (hstep.2 (fun hc=>hi hc.2))
      refine ⟨fun ⟨hp,hc⟩=>h5.1 ⟨hp,by omega⟩,fun hn=>h5.2 (fun ⟨hp,hc⟩=>hn ⟨hp,by omega⟩)⟩
    ·cases hu
  rw[List.range_eq_range'] at h
  obtain ⟨h3,h4⟩:=main len 0 cs cs' vs (by omega) h hr
  refine ⟨fun hp=>?_,fun hp=>h4 (fun hc=>hp hc.1)⟩
  have:=h3 ⟨hp,Nat.zero_le _⟩
  rwa [show o+ixN ((len,stride,i)::l)=o+i.toNat*stride+ixN l by simp only[ixN];omega]
def zafs (ix:List (Nat×Nat×Int)):Nat→List AV→List AV→Option (List AV)
 | _,[],cs=>some cs
 | o,y::ys,cs=>match updC (fun _=>some y) ix o cs with
  | some cs'=>zafs ix (o+1) ys cs'
  | none=>none
theorem zaft {C:Cx} {ix:List (Nat×Nat×Int)} (hb:inB ix):∀ {ys:List AV} {us:List Value} {o:Nat} {cs cs':List AV} {vs:List Value},zafs ix o ys cs=some cs'→Rds C ys us→Rds C cs vs →
  o+ixN ix+ys.length≤vs.length→Rds C cs' (vs.take (o+ixN ix)++us++vs.drop (o+ixN ix+ys.length))
 | [],us,o,cs,cs',vs,h,hy,hr,_=>by
  simp only[zafs,yy1] at h
  subst h
  rw[hy.unnil]
  simpa using hr
 | y::ys,us,o,cs,cs',vs,h,hy,hr,hl=>by
  obtain ⟨u,us',rfl,hu,hus⟩:=hy.uncons
  simp only[zafs] at h
  split at h
  ·rename_i cs1 h1
   have h2:=(zaqx (p:=True) (val:=u) (fun old _ x hx _=>by
    simp only[yy1] at hx
    subst hx
    exact ⟨fun _=>hu,fun hn=>absurd trivial hn⟩) h1 hb hr).1 trivial
   simp only[List.length_cons] at hl
   have h3:=zaft hb h hus h2 (by rw[List.length_set];omega)
   have hlt:o+ixN ix < vs.length:=by omega
   have e1:(vs.set (o+ixN ix) u).take (o+1+ixN ix)=vs.take (o+ixN ix)++[u]:=by
    rw[show o+1+ixN ix=o+ixN ix+1 by omega,List.take_succ_eq_append_getElem (by rw[List.length_set];exact hlt),List.getElem_set_self,List.take_set_of_le (Nat.le_refl _)]
   have e2:(vs.set (o+ixN ix) u).drop (o+1+ixN ix+ys.length)=vs.drop (o+ixN ix+(ys.length+1)):=by
    rw[List.drop_set_of_lt (by omega)];congr 1;omega
   rw[e1,e2] at h3
   simpa using h3
  ·cases h
def zaah (cs:List AV) (ix:List (Nat×Nat×Int)) (o n:Nat):Option (List AV):=z6v ((List.range n).map fun c=>zad1 cs ix (o+c))
theorem zzg {C:Cx} {cs:List AV} {vs:List Value} (hr:Rds C cs vs) {ix:List (Nat×Nat×Int)} (hb:inB ix) {o n:Nat} {xs:List AV} (h:zaah cs ix o n=some xs) :
  xs.length=n∧Rds C xs ((vs.drop (o+ixN ix)).take n)∧∀ c,c < n→o+ixN ix+c < vs.length:=by
 obtain ⟨k1,k2⟩:=z29 h
 rw[List.length_map,List.length_range] at k1 k2
 have key:∀ c,c < n→∃ v,vs[o+ixN ix+c]?=some v∧Rd C (xs.getD c .any) v:=by
  intro c hc
  have h3:=k2 c hc .any
  rw[pickAV_rd.getD_map' (fun c=>zad1 cs ix (o+c)) _ _ 0 none (by simpa using hc),yy0,List.getElem?_range hc] at h3
  obtain ⟨v,h4,h5⟩:=pickAV_rd hr h3 hb
  refine ⟨v,?_,h5⟩
  rw[← h4]
  congr 1
  simp only[yy2]
  omega
 have hlen:∀ c,c < n→o+ixN ix+c < vs.length:=fun c hc=>by
  obtain ⟨v,h1,_⟩:=key c hc
  exact (List.getElem?_eq_some_iff.1 h1).1
 refine ⟨k1,⟨?_,fun c hc=>?_⟩,hlen⟩
 ·rw[List.length_take,List.length_drop,k1]
  rcases Nat.eq_zero_or_pos n with h0 | h0
  ·omega
  ·have:=hlen (n - 1) (by omega);omega
 ·rw[k1] at hc
  obtain ⟨v,h1,h2⟩:=key c hc
  rw[yy0 (l:=(vs.drop (o+ixN ix)).take n),List.getElem?_take_of_lt hc,List.getElem?_drop,h1]
  exact h2
section sound
variable {P:Program} {G:Gl} {blks:List Blk} {nu:Nat→Option Value} {w:World} (h:MInv G blks nu w)
include h
theorem zafu {o:Oper} {T E:TypeId} {x y:Operand} {e:Operand→Value} {j off n len:Nat} {k:IntKind} {i:Int} (ho:o.op=.indexAddr T x y)
  (hx:Rd (cx G blks nu w) (.ptr j off) (e x)) (hy:Rd (cx G blks nu w) (.val (.int k i)) (e y)) (hT:P.underlying T=some (.array len E)) (hn:zr P (sizeOf E)=some n)
  (hi:0≤i∧i < len):Does P o e w (zln G blks nu w ⟨[0≤i∧i < len],.pix j off [(len,n,i)] 0,[]⟩):=by
 generalize hv:e x=v at hx
 generalize hw:e y=b at hy
 cases hy
 cases hx with
 | @ptr _ _ b hb =>
  refine Does.value (v:=.pointer (some ((⟨b,off,none⟩:Addr).add (i.toNat*n)))) (w':=w) ?_ ⟨nu,.refl _,h,?_⟩
  ·simp[execOp,ho,hv,hw,Instr.indexAt,asIntOf,run_underlying hT,hi,Instr.sureAddr,zq hn w]
  ·rw[zaq]
   have:=Rd.pix (C:=cx G blks nu w) (base:=off) (off:=0) (ix:=[(len,n,i)]) hb ⟨hi,trivial⟩
   simp only[ixN,Nat.add_zero] at this
   exact this
theorem zacs {o:Oper} {T E:TypeId} {x y:Operand} {e:Operand→Value} {j base off n len:Nat} {ix:List (Nat×Nat×Int)} {k:IntKind} {i:Int} (ho:o.op=.indexAddr T x y)
  (hx:Rd (cx G blks nu w) (.pix j base ix off) (e x)) (hy:Rd (cx G blks nu w) (.val (.int k i)) (e y)) (hT:P.underlying T=some (.array len E)) (hn:zr P (sizeOf E)=some n)
  (hi:0≤i∧i < len):Does P o e w (zln G blks nu w ⟨[0≤i∧i < len],.pix j (base+off) (ix++[(len,n,i)]) 0,[]⟩):=by
 generalize hv:e x=v at hx
 generalize hw:e y=b at hy
 cases hy
 cases hx with
 | @pix _ _ _ b _ hb hbx =>
  have h1:∀ l:List (Nat×Nat×Int),inB l→inB (l++[(len,n,i)])∧ixN (l++[(len,n,i)])=ixN l+i.toNat*n:=by
   intro l
   induction l with
   | nil=>intro _;exact ⟨⟨hi,trivial⟩,by simp[ixN]⟩
   | cons p l ih =>
    intro hl
    obtain ⟨q1,q2⟩:=ih hl.2
    exact ⟨⟨hl.1,q1⟩,by simp only[List.cons_append,ixN,q2];omega⟩
  obtain ⟨h2,h3⟩:=h1 ix hbx
  refine Does.value (v:=.pointer (some ((⟨b,base+ixN ix+off,none⟩:Addr).add (i.toNat*n)))) (w':=w) ?_ ⟨nu,.refl _,h,?_⟩
  ·simp[execOp,ho,hv,hw,Instr.indexAt,asIntOf,run_underlying hT,hi,Instr.sureAddr,zq hn w]
  ·rw[zaq]
   have:=Rd.pix (C:=cx G blks nu w) (base:=base+off) (off:=0) hb h2
   rw[h3] at this
   rwa [show base+ixN ix+off+i.toNat*n=base+off+(ixN ix+i.toNat*n)+0 by omega]
theorem zafv {o:Oper} {T:TypeId} {x:Operand} {e:Operand→Value} {j base off:Nat} {ix:List (Nat×Nat×Int)} {U:TypeId} {cs xs:List AV} {t:Bool} {n:Nat} (ho:o.op=.load T x)
  (hx:Rd (cx G blks nu w) (.pix j base ix off) (e x)) (hb:blks.getD j .dead=.cells U cs) (ht:zr P (isAgg T)=some t) (hn:zr P (sizeOf T)=some n)
  (h1:t=false→n=1) (hp:zaah cs ix (base+off) n=some xs):Does P o e w (zln G blks nu w ⟨[],zq3 t xs,[]⟩):=by
 have hk:=h.ok j
 rw[hb] at hk
 obtain ⟨b,vs,e1,e2,e3⟩:=hk
 generalize hv:e x=v at hx
 cases hx with
 | @pix _ _ _ b' _ e4 hbx =>
  have:b=b':=by have:=e1.symm.trans e4;simpa using this
  subst this
  obtain ⟨k1,k2,k3⟩:=zzg e3 hbx hp
  have hadd:base+ixN ix+off=base+off+ixN ix:=by omega
  have hrun:=zem (w:=w) ht hn ⟨b,base+ixN ix+off,none⟩ ((vs.drop (base+off+ixN ix)).take n) (by rw[k2.1,k1]) h1 (fun i v hi=>by
   rw[zaq,hadd,cell_of_row w b (base+off+ixN ix+i) vs.toArray U (0,0) e2]
   have hin:i < n:=by have:=(List.getElem?_eq_some_iff.1 hi).1;simp at this;omega
   rw[List.getElem?_take_of_lt hin,List.getElem?_drop] at hi
   simpa using hi)
  refine Does.value (v:=if t then .agg ((vs.drop (base+off+ixN ix)).take n).toArray else ((vs.drop (base+off+ixN ix)).take n).getD 0 undef) (w':=w) ?_ (za8 h (zkr k2 (fun ht=>by rw[k1];exact h1 ht)))
  simp[execOp,ho,Instr.loadAt,Instr.sureAddr,hv,hrun]
theorem zact {o:Oper} {T:TypeId} {x y:Operand} {e:Operand→Value} {j base off:Nat} {ix:List (Nat×Nat×Int)} {U:TypeId} {cs cs':List AV} {c:AV} {n:Nat} (ho:o.op=.store T x y)
  (hx:Rd (cx G blks nu w) (.pix j base ix off) (e x)) (hy:Rd (cx G blks nu w) c (e y)) (hb:blks.getD j .dead=.cells U cs) (hn:zr P (sizeOf T)=some n)
  (hc:(zap c).all (one fun j=>blks.getD j .dead)=true) (hl:(zap c).length=n) (hfit:(zaah cs ix (base+off) n).isSome=true) (hp:zafs ix (base+off) (zap c) cs=some cs') :
  Does P o e w (zln G blks nu w ⟨[],.any,[(j,.cells U cs')]⟩):=by
 obtain ⟨k1,k2⟩:=z3c h hy hc
 have hk:=h.ok j
 rw[hb] at hk
 obtain ⟨b,vs,e1,e2,e3⟩:=hk
 generalize hv:e x=v at hx
 cases hx with
 | @pix _ _ _ b' _ e4 hbx =>
  have:b=b':=by have:=e1.symm.trans e4;simpa using this
  subst this
  obtain ⟨xs,hxs⟩:=Option.isSome_iff_exists.1 hfit
  obtain ⟨_,_,p3⟩:=zzg e3 hbx hxs
  have hadd:base+ixN ix+off=base+off+ixN ix:=by omega
  have hlen:(e y).cells.toList.length=n:=by rw[k1.1];exact hl
  have hfits:base+off+ixN ix+n≤vs.length∨n=0:=by
   rcases Nat.eq_zero_or_pos n with h0 | h0
   ·exact .inr h0
   ·have:=p3 (n - 1) (by omega);exact .inl (by omega)
  rcases hfits with hf | h0
  ·have hst:=run_storeCells_at P b (base+off+ixN ix) U (e y).cells.toList 0 vs.toArray w e2 (by simp only[Nat.add_zero,List.size_toArray];rw[hlen];exact hf) k2
   have hr:=zaft hbx hp k1 e3 (by rw[hl];exact hf)
   rw[hl] at hr
   simp only[Nat.add_zero,hlen] at hst
   obtain ⟨m1,m2⟩:=h.write (w':=w.setRow b (vs.take (base+off+ixN ix)++(e y).cells.toList++vs.drop (base+off+ixN ix+n)).toArray) hb e1 hr (fun k hk=>setRow_other w b k _ hk) (setRow_heap w b _ _ U _ e2) (by simp[World.setRow]) rfl rfl rfl
   refine Does.skip (w':=w.setRow b (vs.take (base+off+ixN ix)++(e y).cells.toList++vs.drop (base+off+ixN ix+n)).toArray) ?_ ⟨nu,by simpa[upd] using m1,by simpa[upd] using m2,.any⟩
   have hsz:((e y).cells.size≠n)=False:=by simp[← hlen]
   simp only[execOp,ho,Instr.storeAt,Instr.sureAddr,hv,Sem.run_bind,Sem.run_pure',Sem.run_pure,Result.andThen_ok,storeVar,zq hn w,hsz,if_false,hadd,hst,Sem.run_ite]
  ·subst h0
   have hce:zap c=[]:=List.eq_nil_of_length_eq_zero hl
   have hue:(e y).cells=#[]:=by
    have:=hlen
    cases hcc:(e y).cells with | mk l=>rw[hcc] at this;simp at this;subst this;rfl
   rw[hce] at hp
   simp only[zafs,yy1] at hp
   subst hp
   obtain ⟨m1,m2⟩:=h.write (w':=w) hb e1 e3 (fun _ _=>rfl) e2 rfl rfl rfl rfl
   refine Does.skip (w':=w) ?_ ⟨nu,by simpa[upd] using m1,by simpa[upd] using m2,.any⟩
   simp[execOp,ho,Instr.storeAt,Instr.sureAddr,hv,storeVar,zq hn w,hue,storeCells]
theorem zafw {o:Oper} {T E:TypeId} {x y:Operand} {e:Operand→Value} {cs xs:List AV} {len:Nat} {k:IntKind} {i:Int} {t:Bool} {n:Nat} (ho:o.op=.index T x y)
  (hx:Rd (cx G blks nu w) (.agg cs) (e x)) (hy:Rd (cx G blks nu w) (.val (.int k i)) (e y)) (hT:P.underlying T=some (.array len E)) (ht:zr P (isAgg E)=some t) (hn:zr P (sizeOf E)=some n)
  (hi:0≤i∧i < len) (h1:t=false→n=1) (hp:zaah cs [(len,n,i)] 0 n=some xs):Does P o e w (zln G blks nu w ⟨[0≤i∧i < len],zq3 t xs,[]⟩):=by
 generalize hv:e x=v at hx
 generalize hw:e y=b at hy
 cases hy
 cases hx with
 | @agg _ vs hvl hh =>
  obtain ⟨k1,k2,k3⟩:=zzg (Rds.mk hvl hh) (ix:=[(len,n,i)]) ⟨hi,trivial⟩ hp
  simp only[ixN,Nat.zero_add,Nat.add_zero] at k2 k3
  refine Does.value (v:=if t then .agg ((vs.drop (i.toNat*n)).take n).toArray else ((vs.drop (i.toNat*n)).take n).getD 0 undef) (w':=w) ?_ ⟨nu,.refl _,h,zkr k2 (fun ht=>by rw[k1];exact h1 ht)⟩
  cases t with
  | true =>
   have e1:vs.toArray.extract (i.toNat*n) (i.toNat*n+n)=((vs.drop (i.toNat*n)).take n).toArray:=by
    simp[List.extract_eq_take_drop]
   simp[execOp,ho,hv,hw,Instr.index,asIntOf,run_underlying hT,hi,part,zq ht w,zq hn w,e1]
  | false =>
   have hn1:=h1 rfl
   subst hn1
   have hlt:i.toNat < vs.length:=by have:=k3 0 (by omega);omega
   have e2:vs[i.toNat]?=some vs[i.toNat]:=yy3 hlt
   have e3:((vs.drop (i.toNat*1)).take 1).getD 0 undef=vs[i.toNat]:=by
    rw[yy0,List.getElem?_take_of_lt (by omega),List.getElem?_drop,Nat.mul_one,Nat.add_zero,e2];rfl
   simp only[Bool.false_eq_true,if_false,e3]
   simp[execOp,ho,hv,hw,Instr.index,asIntOf,run_underlying hT,hi,part,zq ht w,zq hn w,e2]
end sound
