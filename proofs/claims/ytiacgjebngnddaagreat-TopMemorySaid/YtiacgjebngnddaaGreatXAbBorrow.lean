/-
  The walk over abstract states.
-/
import Derived.Test.YtiacgjebngnddaaGreatXAbC
namespace Go.Proofs.YtiacgjebngnddaaGreat.Ab
open Go Go.RowKit
set_option linter.unusedSimpArgs false
set_option linter.unusedVariables false
def z2c (bk:Nat→Blk):AV→AV
 | .val v=>.val v
 | .sl s=>.sl s
 | .own j=>match bk j with
  | .rows _ s=>.sl s
  | _=>.any
 | .nst j .whole=>match bk j with
  | .nest _ _ true l=>.sl (.packets l)
  | _=>.any
 | _=>.any
def z81 (bk:Nat→Blk):AV→AV
 | .agg cs=>.agg (cs.map (z2c bk))
 | x=>z2c bk x
def zahy:AV→AV
 | .val v=>.val v
 | _=>.any
theorem zae7 {C C':Cx} {x:AV} {v:Value} (h:Rd C x v):Rd C' (zahy x) v:=by
 cases x<;>first | exact .any | (cases h;exact .val)
def zx6 (w:World):Cx:=⟨w,fun _=>False,fun _=>none⟩
section
variable {G:Gl} {blks:List Blk} {nu:Nat→Option Value} {w:World} (h:MInv G blks nu w)
include h
omit h in
theorem zahz (a:Addr) (v:Value) (_:¬ (cx G blks nu w).L a.block) (hc:(cx G blks nu w).w.cell? a=some v):(zx6 w).w.cell? a=some v∧¬ (zx6 w).L a.block:=⟨hc,fun q=>q⟩
omit h in
theorem zabl {x:AV} {v:Value} (hx:Rd (cx G blks nu w) x v) (hc:x.clear (fun _=>true)=true):Rd (zx6 w) x v :=
 hx.change (p:=fun _=>true) zahz (fun i u hi=>by cases hi) hc
omit h in
theorem z64 {E sz:Nat} {s:Sl} {v:Value} {vs:List Value} (hr:w.ownsRow 0 E s.sz v s.len vs) (hm:s.len≤maxLen) (hrd:∀ k c,k < s.len→c < s.sz→Rd (zx6 w) (s.cell k c) (vs.getD (k*s.sz+c) undef)):Rd (zx6 w) (.sl s) v:=by
 rcases hr.2 with ⟨rfl,h0⟩ | ⟨g,cap,cur,rfl,_,_,hcap,_⟩
 ·exact .slnil h0
 ·refine .sl ⟨g,0,none⟩ cap (fun k c=>vs.getD (k*s.sz+c) undef) hm hcap (fun k c hk hc=>?_) (fun _ q=>q) hrd
  have hlt:k*s.sz+c < vs.length:=by
   rw[hr.1]
   calc k*s.sz+c < k*s.sz+s.sz:=by omega
    _=(k+1)*s.sz:=by rw[Nat.add_mul,Nat.one_mul]
    _≤s.len*s.sz:=Nat.mul_le_mul_right _ hk
  exact hr.cells (g:=g) rfl _ _ (by rw[yy0,yy3 hlt];rfl)
theorem z5b {bk:Nat→Blk} (hbk:∀ j,bk j=blks.getD j .dead∨bk j=.dead) {x:AV} {v:Value} (hx:Rd (cx G blks nu w) x v):Rd (zx6 w) (z2c bk x) v:=by
 cases x with
 | val u=>cases hx;exact .val
 | sl s=>exact zabl hx rfl
 | own j =>
  simp only[z2c]
  split
  ·rename_i E s hb
   have hb':=zdp hbk hb (by simp)
   have hk:=h.ok j
   rw[hb'] at hk
   obtain ⟨u,vs,e1,e2,e3,e4⟩:=hk
   cases hx with
   | own hn =>
    have:=hn.symm.trans e1
    simp only[yy1] at this
    subst this
    exact z64 (E:=E) (sz:=0) e2 e4 fun k c hk hc=>zabl (e3 k c hk hc) (zfo _ s k c hc)
  ·exact .any
 | nst j r =>
  cases r<;>simp only[z2c]<;>try exact .any
  split
  ·rename_i E F l hb
   have hb':=zdp hbk hb (by simp)
   obtain ⟨v0,ws,vs,e1,e2,e3⟩:=zp8 h hb' hx
   have e3:v=v0:=zp9 e3
   subst e3
   refine z64 (E:=E) (sz:=0) (s:=.packets l) e2.row e2.most fun k c hk hc=>?_
   have hk:k < l.length:=hk
   have hc:c < 6:=hc
   have hp:l[k]?=some (l.getD k default):=by rw[yy0,yy3 hk];rfl
   have hws:ws[k]?=some (ws[k]'(by rw[e2.size];exact hk)):=Array.getElem?_eq_getElem _
   obtain ⟨k1,⟨a0,a1,a2,a3,⟨b0,b1,b2,b3⟩,be⟩,⟨d,d1,d2⟩,us,u1,u2,u3⟩:=e2.at_ k _ _ hp hws
   obtain ⟨r0,r1,r2,r3⟩:=be rfl
   subst r0;subst r1;subst r2;subst r3
   have at_:∀ (c:Nat) (u:Value),vs[k*6+c]?=some u→vs.getD (k*(Sl.packets l).sz+c) undef=u:=by
    intro c u hu
    show vs.getD (k*6+c) undef=u
    rw[yy0,hu];rfl
   generalize l.getD k default=p at *
   have cell:∀ c,(Sl.packets l).cell k c=(Packet.cells (l.getD k default)).getD c .any:=fun c=>rfl
   have hpk:l.getD k default=p:=by rw[yy0,hp];rfl
   rw[cell,hpk]
   match c,hc with
   | 0,_=>rw[at_ 0 _ b0];exact .val
   | 1,_=>rw[at_ 1 _ b1];exact .val
   | 2,_=>rw[at_ 2 _ b2];exact .val
   | 3,_=>rw[at_ 3 _ b3];exact .val
   | 4,_ =>
    rw[at_ 4 _ k1]
    refine z64 (E:=F) (sz:=0) (s:=.powers p.Set) u1 u2 fun q c hq hc=>?_
    have hq:q < p.Set.length:=hq
    have hc:c < 2:=hc
    have hy:p.Set[q]?=some (p.Set.getD q default):=by rw[yy0,yy3 hq];rfl
    obtain ⟨a,b,y1,y2,y3⟩:=u3 q _ hy
    obtain ⟨z1,z2⟩:=y3 rfl
    have ats:∀ (c:Nat) (u:Value),us[q*2+c]?=some u→us.getD (q*(Sl.powers p.Set).sz+c) undef=u:=by
     intro c u hu
     show us.getD (q*2+c) undef=u
     rw[yy0,hu];rfl
    have cellp:∀ c,(Sl.powers p.Set).cell q c=(Power.cells (p.Set.getD q default)).getD c .any:=fun c=>rfl
    rw[cellp]
    match c,hc with
    | 0,_=>rw[ats 0 _ y1,z1];exact .val
    | 1,_=>rw[ats 1 _ y2,z2];exact .val
   | 5,_=>rw[at_ 5 _ d1];exact zabl d2 rfl
  ·exact .any
 | _=>exact .any
theorem zah0 {bk:Nat→Blk} (hbk:∀ j,bk j=blks.getD j .dead∨bk j=.dead) {x:AV} {v:Value} (hx:Rd (cx G blks nu w) x v):Rd (zx6 w) (z81 bk x) v:=by
 cases x with
 | agg cs =>
  cases hx with
  | agg hl hh =>
   refine .agg (by simpa using hl) fun i hi=>?_
   have hi':i < cs.length:=by simpa using hi
   have:=z5b h hbk (hh i hi')
   rw[yy0,List.getElem?_map,yy3 hi']
   rw[yy0,yy3 hi'] at this
   exact this
 | _=>exact z5b h hbk hx
end
noncomputable def z65 (F:SpecT):SpecT:=fun args bk _=>match F (args.map (z81 bk)) (fun _=>.dead) 0 with
 | some c=>some ⟨c.β,c.o,c.d,fun r=>zahy (c.v r),fun _=>[]⟩
 | none=>none
theorem z5c {P:Program} {f:FuncId} {F:SpecT} (hF:zg P f F.spec):zg P f (z65 F).spec:=by
 intro G blks nu w hm args vs hvs bk hbk id r hr hobl
 unfold SpecT.spec z65 at hr
 cases hc:F (args.map (z81 bk)) (fun _=>.dead) 0 with
 | none=>simp[hc] at hr
 | some c =>
  simp only[hc,yy1] at hr
  subst hr
  let G2:Gl:=⟨w,fun _=>False,fun _=>False,fun _ q=>q.elim,fun _ q=>q.elim,fun _=>none⟩
  have e2:cx G2 [] (fun _=>none) w=zx6 w:=by
   unfold cx zx6
   congr 1
   funext b
   refine propext ⟨?_,fun q=>q.elim⟩
   rintro (q | ⟨j,v,q,_⟩)
   ·exact q
   ·simp[Blk.live] at q
  have hm2:MInv G2 [] (fun _=>none) w:=by
   refine ⟨fun j=>?_,fun j j' v v' b _ q=>?_,fun j v b q=>?_,rfl,rfl,rfl,Nat.le_refl _,fun _ _ _=>rfl,fun k v q=>by cases q⟩
   ·simp[BlkOk]
   ·simp[Blk.live] at q
   ·simp[Blk.live] at q
  have hargs:Rds (cx G2 [] (fun _=>none) w) (args.map (z81 bk)) vs:=by
   rw[e2]
   refine Rds.of_get (by simp[hvs.1]) fun i c v h1 h2=>?_
   rw[List.getElem?_map] at h1
   cases ha:args[i]? with
   | none=>rw[ha] at h1;cases h1
   | some a =>
    rw[ha] at h1
    simp only[Option.map_some,yy1] at h1
    subst h1
    obtain ⟨u,hu,hrd⟩:=hvs.get i a ha
    rw[hu] at h2;cases h2
    exact zah0 hm hbk hrd
  have hs:F.spec (args.map (z81 bk)) (fun _=>.dead) 0=some c.res:=by unfold SpecT.spec;rw[hc]
  have hcall:=hF G2 [] (fun _=>none) w hm2 _ vs hargs (fun _=>.dead) (fun _=>.inr rfl) 0 c.res hs (by exact ⟨hobl.1,trivial⟩)
  refine hcall.mono ?_
  rintro x w' ⟨v,hx,nu',k1,k2,k3⟩
  obtain ⟨m1,m2⟩:=hm.step (w':=w') (blks':=blks) (nu':=nu) (fun _=>False) (fun _ _ h=>h) (fun b hb _=>k2.block b hb (fun q=>q)) k2.size k2.os k2.tape k2.output (fun _ _=>rfl) (fun _ _=>rfl) (fun _ _ h=>h.elim) (fun _ _ _ h=>h.elim) (fun _ _ _ _ _ _ h=>h.elim)
  exact ⟨v,hx,nu,m1,m2,zae7 k3⟩
