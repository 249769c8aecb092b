/-
  The walk over abstract states.
-/
import Derived.Test.YtobfadhgiaphnaaGreatXAbC
namespace Go.Proofs.YtobfadhgiaphnaaGreat.Ab
open Go Go.RowKit
set_option linter.unusedSimpArgs false
set_option linter.unusedVariables false
open Classical in
noncomputable def roO {β:Type} (o:Option β) (p:β→Prop):Option β:=o.bind fun r=>if p r then some r else none
theorem zav1 {β:Type} {o:Option β} {p:β→Prop} {r:β} (h:roO o p=some r):o=some r∧p r:=by
 unfold roO at h
 cases o with
 | none=>cases h
 | some x =>
  simp only[Option.bind_some] at h
  split at h
  ·rename_i hp;simp only[yy1] at h;subst h;exact ⟨rfl,hp⟩
  ·cases h
theorem za8f {β:Type} {p:β→Prop} {r:β} (h:p r):roO (some r) p=some r:=by unfold roO;simp[h]
def zap0 (bk:Nat→Blk):List (Nat×Blk)→Prop
 | []=>True
 | p::l=>(bk p.1=p.2∧p.2.live=true)∧zap0 bk l
theorem zaoa {bk:Nat→Blk}:∀ (bs:List (Nat×Blk)) (blks:List Blk),(∀ j,bk j=blks.getD j .dead∨bk j=.dead)→zap0 bk bs→upd blks bs=blks
 | [],_,_,_=>rfl
 | p::bs,blks,hbk,h=>by
  obtain ⟨⟨h1,h2⟩,h3⟩:=h
  have e:blks.getD p.1 .dead=p.2:=by
   rcases hbk p.1 with k | k
   ·rw[← k];exact h1
   ·rw[← h1,k] at h2;cases h2
  have hl:p.1 < blks.length:=by
   rcases Nat.lt_or_ge p.1 blks.length with k | k
   ·exact k
   ·rw[yy0,List.getElem?_eq_none k] at e
    rw[← e] at h2;cases h2
  have es:blks.set p.1 p.2=blks:=by
   rw[← e,yy0,yy3 hl]
   exact List.set_getElem_self hl
  show upd (blks.set p.1 p.2) bs=blks
  rw[es]
  exact zaoa bs blks hbk h3
noncomputable def roT (F:SpecT):SpecT:=fun args bk id=>match F args bk id with
 | some c=>some ⟨c.β,roO c.o (fun r=>zap0 bk (c.bs r)),c.d,c.v,fun _=>[]⟩
 | none=>none
theorem za8g {P:Program} {f:FuncId} {F:SpecT} (h:ze P f F.spec):ze P f (roT F).spec:=by
 intro G blks nu w hm args vs hvs bk hbk id r hr hobl
 unfold SpecT.spec roT at hr
 cases hF:F args bk id with
 | none=>simp[hF] at hr
 | some c =>
  simp only[hF,yy1] at hr
  subst hr
  obtain ⟨r0,h0⟩:=Option.isSome_iff_exists.1 hobl.1
  obtain ⟨hc,hp⟩:=zav1 h0
  have hs:F.spec args bk id=some c.res:=by unfold SpecT.spec;rw[hF]
  have hr:=zaf3 hc
  have hobl':z3x c.res.obl:=by rw[hr];exact ⟨by rw[hc];rfl,trivial⟩
  have hcall:=h G blks nu w hm args vs hvs bk hbk id c.res hs hobl'
  have hv:CR.res ⟨c.β,roO c.o (fun r=>zap0 bk (c.bs r)),c.d,c.v,fun _=>[]⟩=⟨[(roO c.o (fun r=>zap0 bk (c.bs r))).isSome=true],c.v r0,[]⟩:=by
   unfold CR.res
   simp only[show roO c.o (fun r=>zap0 bk (c.bs r))=some r0 from h0,yy2]
  rw[hv]
  refine hcall.mono ?_
  rintro x w' ⟨v,hx,nu',k1,k2,k3⟩
  rw[hr] at k1 k2 k3
  simp only[zaoa _ _ hbk hp] at k1 k2 k3
  exact ⟨v,hx,nu',k1,k2,k3⟩
def roW (T:TypeId) (w w':Wld):Prop:=(Blk.cells T (wldL.e w)=Blk.cells T (wldL.e w')∧(Blk.cells T (wldL.e w')).live=true)∧True
noncomputable def roOW {α:Type} (T:TypeId) (w:Wld) (o:Option (α×Wld)):Option (α×Wld):=roO o (fun r=>roW T w r.2)
theorem za36 {α:Type} {T:TypeId} {w:Wld} {o:Option (α×Wld)} {x:α} (h:o=some (x,w)):roOW T w o=some (x,w):=by
 unfold roOW;rw[h];exact za8f ⟨⟨rfl,rfl⟩,trivial⟩
