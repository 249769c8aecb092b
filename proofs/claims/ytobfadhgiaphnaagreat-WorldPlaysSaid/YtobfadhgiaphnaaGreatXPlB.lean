/-
  The plain lemmas.
-/
import Derived.Test.YtobfadhgiaphnaaGreatXAbInsert
import Derived.Test.YtobfadhgiaphnaaGreatXAbSort2
import Derived.Sort.LotA
import Derived.Test.YtobfadhgiaphnaaGreatXFBank
import Derived.Test.YtobfadhgiaphnaaGreatXFCodec
import Derived.Test.YtobfadhgiaphnaaGreatXFCons
import Derived.Test.YtobfadhgiaphnaaGreatXFLine
import Derived.Test.YtobfadhgiaphnaaGreatXFProv
import Derived.Test.YtobfadhgiaphnaaGreatXFRefA
import Derived.Test.YtobfadhgiaphnaaGreatXFRefB
import Derived.Test.YtobfadhgiaphnaaGreatXFRefC
import Derived.Test.YtobfadhgiaphnaaGreatXFRefP
import Derived.Test.YtobfadhgiaphnaaGreatXFStakeA
import Derived.Test.YtobfadhgiaphnaaGreatXFStakeB
import Derived.Test.YtobfadhgiaphnaaGreatXPlA
namespace Go.Proofs.YtobfadhgiaphnaaGreat.Ab
open Go Go.RowKit
open Go.IntKind (i64 u64)
set_option linter.unusedVariables false
set_option linter.unusedSimpArgs false
theorem ztq {α:Type} {l:List α} {i:Nat} (h:i < l.length) (d:α):l.getD i d=l[i]:=by rw[yy0,yy3 h];rfl
theorem z3o {α:Type} {l:List α} {i:Nat} (h:i < l.length) (d:α):l.set i (l.getD i d)=l:=by rw[ztq h];exact List.set_getElem_self h
theorem z3p {σ ρ τ α:Type} {F:σ→Option (σ⊕ρ)} (l:List α) (d:α) (mk:Nat→List α→τ→σ) (I:Nat→τ→Prop) (f:α→α) (g:τ→α→τ) (out:List α→τ→ρ)
  (hend:∀ W t,W.length=l.length→I l.length t→F (mk l.length W t)=some (.inr (out W t)))
  (hstep:∀ i W t,i < l.length→W.length=l.length→W.getD i d=l.getD i d→I i t→F (mk i W t)=some (.inl (mk (i+1) (W.set i (f (l.getD i d))) (g t (l.getD i d))))∧I (i+1) (g t (l.getD i d))) (t:τ) (h0:I 0 t) :
  zbl F (mk 0 l t)=some (out (l.map f) (l.foldl g t)):=by
 have:=zb7 (F:=F) l.length (fun i (s:List α×τ)=>mk i s.1 s.2) (fun i s=>s.1=(l.take i).map f++l.drop i∧I i s.2) (fun i s=>out (l.map f) ((l.drop i).foldl g s.2)) (by
   rintro ⟨W,t⟩ ⟨h1,h2⟩
   simp only at h1 h2
   rw[hend W t (by rw[h1];simp) h2,List.drop_length,h1,List.take_length,List.drop_length,List.append_nil];rfl) (by
   rintro i ⟨W,t⟩ hi ⟨h1,h2⟩
   simp only at h1 h2
   have hs:=z6 (l:=l) (k:=i) hi d
   have hW:W.length=l.length:=by rw[h1];simp;omega
   have ht:l.take (i+1)=l.take i++[l.getD i d]:=by rw[List.take_succ_eq_append_getElem hi,ztq hi]
   have hlen:((l.take i).map f).length=i:=by simp;omega
   have hg:W.getD i d=l.getD i d:=by
    rw[h1,yy0,List.getElem?_append_right (by omega),hlen,Nat.sub_self,hs];rfl
   obtain ⟨k1,k2⟩:=hstep i W t hi hW hg h2
   refine .inl ⟨(W.set i (f (l.getD i d)),g t (l.getD i d)),k1,⟨?_,k2⟩,?_⟩
   ·show W.set i _=_
    rw[h1,List.set_append_right _ _ (by omega),hlen,Nat.sub_self,hs,List.set_cons_zero,ht,List.map_append,List.append_assoc];rfl
   ·rw[hs,List.foldl_cons]) 0 (l,t) (Nat.zero_le _) ⟨by simp,h0⟩
 simpa using this
def relW (c h:Int) (w:Wait):Wait:={ w with h0:=if c=0∧w.h0≤h then 0 else w.h0,h1:=if c=1∧w.h1≤h then 0 else w.h1 }
def zmn (s:Stake) (c h:Int):Stake:={ s with Waits:=s.Waits.map (relW c h) }
theorem za0i {c h:Int} {w:Wait} (hc:c < 0∨2≤c):relW c h w=w:=by unfold relW;rw[if_neg (by omega),if_neg (by omega)]
theorem zala {s:Stake} {c h:Int} (hc:c < 0∨2≤c):zmn s c h=s:=by
 unfold zmn
 have:s.Waits.map (relW c h)=s.Waits:=by
  rw[show relW c h=id from funext fun w=>za0i hc,List.map_id]
 rw[this]
theorem z9v {s:Stake} {c h:Int} (hl:s.Waits.length*64≤140737488351232):zim s c h=some (zmn s c h):=by
 rw[zim,zt6]
 by_cases hc:c < 0∨2≤c
 ·rw[Tr.rt (by simpa using hc),Tr.rl,zala hc]
 ·rw[Tr.rf (by simp only[Bool.or_eq_false_iff,yy8];omega),Tr.rb (z8b hl)]
  have key:∀ z:Stake,zmw c h s.Waits.length 0 { s with Waits:=s.Waits } z=some (zmn s c h,z):=by
   intro z
   rw[zmw]
   refine z3p (F:=fun s:Int×Int×Int×Int×Stake×Stake=>(zf4 s.1 s.2.1 s.2.2.1 s.2.2.2.1 s.2.2.2.2.1 s.2.2.2.2.2).run) s.Waits default
    (fun i W (_:Unit)=>(c,h,(s.Waits.length:Int),(i:Int),{ s with Waits:=W },z)) (fun _ _=>True) (relW c h) (fun t _=>t) (fun W _=>({ s with Waits:=W },z)) ?_ ?_ () trivial
   ·intro W t hW _
    simp only[zf4];rw[Tr.rf (by simp),Tr.rl]
   ·intro i W t hi hW hg _
    refine ⟨?_,trivial⟩
    simp only[zf4]
    rw[yy4,hg]
    obtain ⟨w,hw⟩:∃ w,w=s.Waits.getD i default:=⟨_,rfl⟩
    rw[← hw] at hg ⊢
    rw[Tr.rt (by simpa using hi),Tr.rg ⟨by omega,by rw[z2];omega⟩,Tr.rg (by omega)]
    by_cases hp:A2.get ⟨w.h0,w.h1⟩ c≤h
    ·rw[Tr.rt (by simpa using hp),Tr.rg ⟨by omega,by rw[z2];omega⟩,Tr.rg (by omega),Tr.rl,zl (by omega)]
     congr 4
     unfold relW
     unfold A2.get at hp
     obtain rfl | rfl:c=0∨c=1:=by omega
     ·simp at hp;simp[hp]
     ·simp at hp;simp[hp]
    ·have e:relW c h w=w:=by
      unfold relW
      unfold A2.get at hp
      obtain rfl | rfl:c=0∨c=1:=by omega
      ·simp at hp
       rw[if_neg (by omega),if_neg (by omega)]
      ·simp at hp
       rw[if_neg (by omega),if_neg (by omega)]
     rw[Tr.rf (by simpa using hp),Tr.rl,zl (by omega),e,← hg,z3o (by omega)]
  rw[Tr.rb (key _),Tr.rl]
theorem z8d {s:Stake} {c h:Int} (hl:s.Waits.length*64≤140737488351232):zqo s c h=some (zmn s c h):=by
 rw[zqo,zz1,Tr.rb (zyp hl)]
 have inner:∀ (W:List Wait) (i:Nat) (n:Int) (z:Stake),i < W.length→W.length=s.Waits.length →
   zpz c h i n i (⟨(W.getD i default).h0,(W.getD i default).h1⟩:A2 Int) 0 z { s with Waits:=W }=some (c,h,n,(i:Int),z,{ s with Waits:=W.set i (relW c h (W.getD i default)) }):=by
  intro W i n z hi hlen
  rw[zpz]
  obtain ⟨w,hw⟩:∃ w,w=W.getD i default:=⟨_,rfl⟩
  rw[← hw]
  have e0:∀ V:List Wait,V.length=W.length→V.getD i default=w→(fun s:Int×Int×Int×Int×Int×(A2 Int)×Int×Stake×Stake=>(zdj s.1 s.2.1 s.2.2.1 s.2.2.2.1 s.2.2.2.2.1 s.2.2.2.2.2.1 s.2.2.2.2.2.2.1 s.2.2.2.2.2.2.2.1 s.2.2.2.2.2.2.2.2).run) (c,h,(i:Int),n,(i:Int),(⟨w.h0,w.h1⟩:A2 Int),0,z,{ s with Waits:=V }) =
    some (.inl (c,h,(i:Int),n,(i:Int),(⟨w.h0,w.h1⟩:A2 Int),1,z,{ s with Waits:=V.set i { w with h0:=if c=0∧w.h0≤h then 0 else w.h0 } })):=by
   intro V hV hg
   simp only[zdj]
   rw[yy4,hg,Tr.rt (by rfl),Tr.rg (by omega)]
   by_cases hp:c=0∧w.h0≤h
   ·rw[Tr.rt (by rw[hp.1];simpa[A2.get] using hp.2),Tr.rg ⟨by omega,by rw[z2];omega⟩,Tr.rg (by omega),Tr.rl,if_pos hp]
    rfl
   ·rw[Tr.rf (by rw[Bool.eq_false_iff];intro k;apply hp;simp[A2.get] at k;omega),Tr.rl,if_neg hp]
    have e:({ w with h0:=w.h0 }:Wait)=w:=rfl
    rw[e,← hg,z3o (by omega)]
    rfl
  have e1:∀ V:List Wait,∀ u:Wait,V.length=W.length→V.getD i default=u→u.h1=w.h1→(fun s:Int×Int×Int×Int×Int×(A2 Int)×Int×Stake×Stake=>(zdj s.1 s.2.1 s.2.2.1 s.2.2.2.1 s.2.2.2.2.1 s.2.2.2.2.2.1 s.2.2.2.2.2.2.1 s.2.2.2.2.2.2.2.1 s.2.2.2.2.2.2.2.2).run) (c,h,(i:Int),n,(i:Int),(⟨w.h0,w.h1⟩:A2 Int),1,z,{ s with Waits:=V }) =
    some (.inl (c,h,(i:Int),n,(i:Int),(⟨w.h0,w.h1⟩:A2 Int),2,z,{ s with Waits:=V.set i { u with h1:=if c=1∧w.h1≤h then 0 else w.h1 } })):=by
   intro V u hV hg hu
   simp only[zdj]
   rw[yy4,hg,Tr.rt (by rfl),Tr.rg (by omega)]
   by_cases hp:c=1∧w.h1≤h
   ·rw[Tr.rt (by rw[hp.1];simpa[A2.get] using hp.2),Tr.rg ⟨by omega,by rw[z2];omega⟩,Tr.rg (by omega),Tr.rl,if_pos hp]
    rfl
   ·rw[Tr.rf (by rw[Bool.eq_false_iff];intro k;apply hp;simp[A2.get] at k;omega),Tr.rl,if_neg hp]
    have e:({ u with h1:=w.h1 }:Wait)=u:=by rw[← hu]
    rw[e,← hg,z3o (by omega)]
    rfl
  have e2:∀ V:List Wait,(fun s:Int×Int×Int×Int×Int×(A2 Int)×Int×Stake×Stake=>(zdj s.1 s.2.1 s.2.2.1 s.2.2.2.1 s.2.2.2.2.1 s.2.2.2.2.2.1 s.2.2.2.2.2.2.1 s.2.2.2.2.2.2.2.1 s.2.2.2.2.2.2.2.2).run) (c,h,(i:Int),n,(i:Int),(⟨w.h0,w.h1⟩:A2 Int),2,z,{ s with Waits:=V })=some (.inr (c,h,n,(i:Int),z,{ s with Waits:=V })):=by
   intro V
   simp only[zdj]
   rw[Tr.rf (by rfl),Tr.rl]
  refine (zab (e0 W rfl hw.symm)).trans ((zab (e1 _ { w with h0:=if c=0∧w.h0≤h then 0 else w.h0 } (by rw[List.length_set]) ?_ rfl)).trans ((zba (e2 _)).trans ?_))
  ·rw[ztq (by rw[List.length_set];exact hi),List.getElem_set_self]
  ·rw[List.set_set];rfl
 have key:∀ z:Stake,zp0 c h s.Waits.length 0 z s=some (z,zmn s c h):=by
  intro z
  rw[zp0]
  refine z3p (F:=fun s:Int×Int×Int×Int×Stake×Stake=>(zix s.1 s.2.1 s.2.2.1 s.2.2.2.1 s.2.2.2.2.1 s.2.2.2.2.2).run) s.Waits default
   (fun i W (_:Unit)=>(c,h,(s.Waits.length:Int),(i:Int),z,{ s with Waits:=W })) (fun _ _=>True) (relW c h) (fun t _=>t) (fun W _=>(z,{ s with Waits:=W })) ?_ ?_ () trivial
  ·intro W t hW _
   simp only[zix];rw[Tr.rf (by simp),Tr.rl]
  ·intro i W t hi hW hg _
   refine ⟨?_,trivial⟩
   simp only[zix]
   rw[yy4,Tr.rt (by simpa using hi),Tr.rg ⟨by omega,by rw[z2];omega⟩,Tr.rb (inner W i _ z (by omega) hW),Tr.rl]
   simp only[]
   rw[hg,zl (by omega)]
 rw[Tr.rb (key _),Tr.rl]
def dueW (time:Int) (w:Wait):Bool:=(decide (w.Due≤time)&&w.h0==0)&&w.h1==0
def payF (time:Int) (t:Bank×List Wait×List Int) (w:Wait):Bank×List Wait×List Int :=
 if dueW time w=true then ((payB t.1 w.D w.Amount).1,t.2.1,t.2.2++[w.Number]) else (t.1,t.2.1++[w],t.2.2)
def payS (s:Stake) (time:Int):Stake×List Int×Int :=
 if ¬ GoodS s then (s,[],2) else ({ s with Bank:=(s.Waits.foldl (payF time) (s.Bank,[],[])).1,Waits:=(s.Waits.foldl (payF time) (s.Bank,[],[])).2.1 },(s.Waits.foldl (payF time) (s.Bank,[],[])).2.2,0)
theorem zauc {b:Bank} {d n:Int} (hg:zif b) (hd:0≤d∧d < 4) (hn:inA n) (hw:n≤b.Waiting):(payB b d n).2=0∧zif (payB b d n).1∧(payB b d n).1.Waiting=b.Waiting - n∧(payB b d n).1.Bonded=b.Bonded∧(payB b d n).1.Burnt=b.Burnt:=by
 have e:payB b d n=zct b 5 d n:=by unfold payB;rw[if_neg (by omega)]
 rw[e,zai4 (f:=5) (t:=d) hg hn.1 hn.2 hw]
 refine ⟨rfl,(zvb (.inr (.inr (.inl ⟨rfl,by omega⟩))) hg hn.1 hw).1,?_⟩
 obtain rfl | rfl | rfl | rfl:d=0∨d=1∨d=2∨d=3:=by omega
 all_goals simp[znl,bkA,plA,A7.get,A7.set]
theorem z6h {next:Int}:∀ {l:List Wait} {p:Int} (i:Nat),zhq next p l→∃ q,zhq next q (l.drop i)
 | l,p,0,h=>⟨p,h⟩
 | [],p,_+1,h=>⟨p,trivial⟩
 | w::l,p,i+1,h=>z6h i h.2
theorem zyq {next:Int}:∀ {l:List Wait} {p:Int},zhq next p l→0≤zvf l
 | [],_,_=>Int.le_refl 0
 | w::l,p,h=>by
  have h1:=zyq h.2
  have h2:=h.1.2.2.2.2.2.2.1
  unfold inA at h2
  simp only[zvf];omega
def PayI (s:Stake) (i:Nat) (t:Bank×List Wait×List Int):Prop :=
 zif t.1∧zvf (s.Waits.drop i)≤t.1.Waiting∧t.2.1.length≤i∧t.2.2.length≤i∧t.1.Bonded=s.Bank.Bonded∧t.1.Burnt=s.Bank.Burnt
theorem zalb {s:Stake} (hg:GoodS s) {time:Int} {i:Nat} (hi:i < s.Waits.length) {t:Bank×List Wait×List Int} (h:PayI s i t) :
  PayI s (i+1) (payF time t (s.Waits.getD i default))∧(payB t.1 (s.Waits.getD i default).D (s.Waits.getD i default).Amount).2=0:=by
 obtain ⟨h1,h2,h3,h4,h5,h6⟩:=h
 have hs:=z6 (l:=s.Waits) (k:=i) hi default
 obtain ⟨q,hq⟩:=z6h i hg.2.2.2.1
 rw[hs] at hq h2
 obtain ⟨w,hw⟩:∃ w,w=s.Waits.getD i default:=⟨_,rfl⟩
 rw[← hw] at hq h2 ⊢
 have hn:=zyq hq.2
 obtain ⟨_,_,d0,d1,_,_,ha,_,_⟩:=hq.1
 simp only[zvf] at h2
 obtain ⟨p1,p2,p3,p4,p5⟩:=zauc h1 ⟨d0,d1⟩ ha (by omega)
 refine ⟨?_,p1⟩
 unfold payF
 by_cases hd:dueW time w=true
 ·rw[if_pos hd]
  exact ⟨p2,by show _≤(payB t.1 w.D w.Amount).1.Waiting;omega,by show t.2.1.length≤_;omega,by show (t.2.2++[w.Number]).length≤_;simp;omega,p4.trans h5,p5.trans h6⟩
 ·rw[if_neg hd]
  unfold inA at ha
  exact ⟨h1,by show _≤t.1.Waiting;omega,by show (t.2.1++[w]).length≤_;simp;omega,by show t.2.2.length≤_;omega,h5,h6⟩
theorem zagw {s:Stake} (hg:GoodS s):PayI s 0 (s.Bank,[],[]):=⟨hg.1,by rw[List.drop_zero,hg.2.2.2.2.2.1];exact Int.le_refl _,by simp,by simp,rfl,rfl⟩
theorem zbhp {s:Stake} {time:Int}:zv2 s time=some (payS s time):=by
 rw[zv2,z5w,Tr.rb (z25 s)]
 unfold payS
 by_cases hg:GoodS s
 ·rw[if_neg (by simpa using hg),Tr.rf (by simpa using hg)]
  have h60:=hg.2.1.2.2
  have key:∀ z:Stake,zt8 time s.Waits s.Waits.length 0 s z [] []=some (.inr ({ s with Bank:=(s.Waits.foldl (payF time) (s.Bank,[],[])).1 },z,(s.Waits.foldl (payF time) (s.Bank,[],[])).2.1,(s.Waits.foldl (payF time) (s.Bank,[],[])).2.2)):=by
   intro z
   rw[zt8]
   refine zcd (F:=fun s:Int×(List Wait)×Int×Int×Stake×Stake×(List Wait)×(List Int)=>(zl4 s.1 s.2.1 s.2.2.1 s.2.2.2.1 s.2.2.2.2.1 s.2.2.2.2.2.1 s.2.2.2.2.2.2.1 s.2.2.2.2.2.2.2).run) s.Waits default
    (fun i t=>(time,s.Waits,(s.Waits.length:Int),(i:Int),{ s with Bank:=t.1 },z,t.2.1,t.2.2)) (PayI s) (payF time) (fun t=>.inr ({ s with Bank:=t.1 },z,t.2.1,t.2.2)) ?_ ?_ (s.Bank,[],[]) (zagw hg)
   ·intro t _
    simp only[zl4];rw[Tr.rf (by simp),Tr.rl]
   ·intro i t hi hI
    obtain ⟨k1,k2⟩:=zalb hg (time:=time) hi hI
    refine ⟨?_,k1⟩
    obtain ⟨h1,h2,h3,h4,h5,h6⟩:=hI
    simp only[zl4]
    rw[yy4]
    obtain ⟨w,hw⟩:∃ w,w=s.Waits.getD i default:=⟨_,rfl⟩
    rw[← hw] at k2 ⊢
    have hc:((decide (w.Due > time))||(!((w.h0==0)&&((w.h1==0)&&true)))) = !dueW time w:=by
     unfold dueW
     rw[Bool.eq_iff_iff]
     simp
     omega
    rw[Tr.rt (by simpa using hi),Tr.rg ⟨by omega,by rw[z2];omega⟩]
    unfold payF
    by_cases hd:dueW time w=true
    ·rw[Tr.rf (by rw[hc,hd];rfl),Tr.rb za7p,Tr.rf (by simpa using k2),Tr.rg (by simp only[zer,yy5];omega),Tr.rl,if_pos hd,zl (by omega)]
    ·rw[Tr.rt (by rw[hc];simpa using hd),Tr.rg (by simp only[z2,yy5];omega),Tr.rl,if_neg hd,zl (by omega)]
  rw[Tr.rj (key _),Tr.rl]
 ·rw[if_pos hg,Tr.rt (by simpa using hg),Tr.rl]
theorem zaud {s:Stake} {time:Int}:ztc s time=some (payS s time):=by
 rw[ztc,z2m,Tr.rb (zvc s)]
 unfold payS
 by_cases hg:GoodS s
 ·rw[if_neg (by simpa using hg),Tr.rf (by simpa using hg),Tr.rb (zabu hg.fit)]
  have h60:=hg.2.1.2.2
  have key:∀ z:Stake,zsa time s.Waits s.Waits.length 0 z { s with Waits:=[] } []=some (z,{ s with Bank:=(s.Waits.foldl (payF time) (s.Bank,[],[])).1,Waits:=(s.Waits.foldl (payF time) (s.Bank,[],[])).2.1 },(s.Waits.foldl (payF time) (s.Bank,[],[])).2.2):=by
   intro z
   rw[zsa]
   refine zcd (F:=fun s:Int×(List Wait)×Int×Int×Stake×Stake×(List Int)=>(zkd s.1 s.2.1 s.2.2.1 s.2.2.2.1 s.2.2.2.2.1 s.2.2.2.2.2.1 s.2.2.2.2.2.2).run) s.Waits default
    (fun i t=>(time,s.Waits,(s.Waits.length:Int),(i:Int),z,{ s with Bank:=t.1,Waits:=t.2.1 },t.2.2)) (PayI s) (payF time) (fun t=>(z,{ s with Bank:=t.1,Waits:=t.2.1 },t.2.2)) ?_ ?_ (s.Bank,[],[]) (zagw hg)
   ·intro t _
    simp only[zkd];rw[Tr.rf (by simp),Tr.rl]
   ·intro i t hi hI
    obtain ⟨k1,k2⟩:=zalb hg (time:=time) hi hI
    refine ⟨?_,k1⟩
    obtain ⟨h1,h2,h3,h4,h5,h6⟩:=hI
    simp only[zkd]
    rw[yy4]
    obtain ⟨w,hw⟩:∃ w,w=s.Waits.getD i default:=⟨_,rfl⟩
    rw[← hw] at k2 ⊢
    rw[Tr.rt (by simpa using hi),Tr.rg ⟨by omega,by rw[z2];omega⟩]
    unfold payF
    by_cases hd:dueW time w=true
    ·rw[Tr.rt (b:=(decide (w.Due≤time)&&w.h0==0)&&w.h1==0) hd,Tr.rb zat4,Tr.rg (by simp only[zer,yy5];omega),Tr.rl,if_pos hd,zl (by omega)]
    ·rw[Tr.rf (by unfold dueW at hd;simpa using hd),Tr.rg (by simp only[z2,yy5];omega),Tr.rl,if_neg hd,zl (by omega)]
  rw[Tr.rb (key _),Tr.rl]
 ·rw[if_pos hg,Tr.rt (by simpa using hg),Tr.rl]
def hitW (v h:Int) (w:Wait):Bool:=w.V==v&&decide (w.Height≥h)
def slN (v h f:Int) (w:Wait):Int:=if hitW v h w=true then (zri w.Amount f).1 else 0
def slW (v h f:Int) (w:Wait):Wait:=if hitW v h w=true then { w with Amount:=w.Amount - (zri w.Amount f).1 } else w
def sumN (v h f:Int) (l:List Wait):Int:=l.foldl (fun t w=>t+slN v h f w) 0
def zhl (s:Stake) (v f:Int):Int:=(zri (s.Validators.Tokens.get v) f).1
def zkp (s:Stake) (v h f:Int):Stake×Int×Int :=
 if zfr s 0 v≠0 then (s,0,zfr s 0 v) else if f < 0∨1000 < f then (s,0,2)
 else (⟨(zai2 s.Bank (zhl s v f) (sumN v h f s.Waits)).1,{ s.Validators with Tokens:=s.Validators.Tokens.set v (s.Validators.Tokens.get v - zhl s v f),Lost:=s.Validators.Lost.set v (s.Validators.Lost.get v+(zhl s v f+sumN v h f s.Waits)) },s.Shares,s.Waits.map (slW v h f),s.Next⟩,
  zhl s v f+sumN v h f s.Waits,0)
theorem zqa {n f:Int} (hn:inA n) (hf:0≤f∧f≤1000):(zri n f).2=0∧0≤(zri n f).1∧(zri n f).1≤n:=by
 obtain ⟨_,h2,h3⟩:=zat1 hn.1 hn.2 hf.1 hf.2
 have e:zri n f=(n*f / 1000,0):=by
  unfold zri
  rw[if_neg (by omega)]
 rw[e]
 generalize n*f=x at h2 h3
 exact ⟨rfl,by show 0≤x / 1000;omega,by show x / 1000≤n;omega⟩
theorem zaue {v h f:Int} {w:Wait} (hw:inA w.Amount) (hf:0≤f∧f≤1000):0≤slN v h f w∧slN v h f w≤w.Amount:=by
 unfold slN
 by_cases hh:hitW v h w=true
 ·rw[if_pos hh];exact (zqa hw hf).2
 ·rw[if_neg hh];unfold inA at hw;omega
def SlI (s:Stake) (i:Nat) (t:Int):Prop:=0≤t∧t+zvf (s.Waits.drop i)≤s.Bank.Waiting
theorem zai9 {s:Stake} (hg:GoodS s) {v h f:Int} (hf:0≤f∧f≤1000) {i:Nat} (hi:i < s.Waits.length) {t:Int} (hI:SlI s i t) :
  SlI s (i+1) (t+slN v h f (s.Waits.getD i default))∧inA (s.Waits.getD i default).Amount∧t+slN v h f (s.Waits.getD i default)≤400000:=by
 obtain ⟨h1,h2⟩:=hI
 have hs:=z6 (l:=s.Waits) (k:=i) hi default
 obtain ⟨q,hq⟩:=z6h i hg.2.2.2.1
 rw[hs] at hq h2
 obtain ⟨w,hw⟩:∃ w,w=s.Waits.getD i default:=⟨_,rfl⟩
 rw[← hw] at hq h2 ⊢
 have hn:=zyq hq.2
 have ha:=hq.1.2.2.2.2.2.2.1
 have hb:=zaue (v:=v) (h:=h) ha hf
 have hw4:okN s.Bank.Waiting:=hg.1.2.2.2.2.2.1
 unfold okN at hw4
 simp only[zvf] at h2
 exact ⟨⟨by omega,by omega⟩,ha,by omega⟩
theorem zad5 {s:Stake} (hg:GoodS s):SlI s 0 0:=⟨by omega,by rw[List.drop_zero,hg.2.2.2.2.2.1];omega⟩
theorem zang {s:Stake} (hg:GoodS s) {v h f:Int} (hf:0≤f∧f≤1000):0≤sumN v h f s.Waits∧sumN v h f s.Waits≤s.Bank.Waiting:=by
 have key:∀ n,n≤s.Waits.length→SlI s n ((s.Waits.take n).foldl (fun t w=>t+slN v h f w) 0):=by
  intro n
  induction n with
  | zero=>intro _;exact zad5 hg
  | succ n ih =>
   intro hn
   rw[List.take_succ_eq_append_getElem (by omega),List.foldl_append,List.foldl_cons,List.foldl_nil,← ztq (by omega) default]
   exact (zai9 hg hf (by omega) (ih (by omega))).1
 have:=key s.Waits.length (Nat.le_refl _)
 rw[List.take_length] at this
 obtain ⟨h1,h2⟩:=this
 rw[List.drop_length] at h2
 simp only[zvf,Int.add_zero] at h2
 exact ⟨h1,h2⟩
theorem z27 {s:Stake} (hg:GoodS s) {v:Int} (hv:0≤v∧v < 6):s.Validators.Tokens.get v≤s.Bank.Bonded∧s.Validators.Lost.get v≤s.Bank.Burnt:=by
 have e1:=hg.2.2.2.2.1
 have e2:=hg.2.2.2.2.2.2
 have e:∀ i:Int,0≤i→i < 6→(0≤s.Validators.Tokens.get i∧s.Validators.Tokens.get i≤1125899906842624)∧(0≤s.Validators.Lost.get i∧s.Validators.Lost.get i≤1125899906842624):=fun i h0 h1=>by
  obtain ⟨⟨k1,_,k3,_⟩,_⟩:=hg.at (v:=i) ⟨h0,h1⟩
  exact ⟨k1,k3⟩
 have t0:(0≤s.Validators.Tokens.x0∧s.Validators.Tokens.x0≤1125899906842624)∧(0≤s.Validators.Lost.x0∧s.Validators.Lost.x0≤1125899906842624):=e 0 (by omega) (by omega)
 have t1:(0≤s.Validators.Tokens.x1∧s.Validators.Tokens.x1≤1125899906842624)∧(0≤s.Validators.Lost.x1∧s.Validators.Lost.x1≤1125899906842624):=e 1 (by omega) (by omega)
 have t2:(0≤s.Validators.Tokens.x2∧s.Validators.Tokens.x2≤1125899906842624)∧(0≤s.Validators.Lost.x2∧s.Validators.Lost.x2≤1125899906842624):=e 2 (by omega) (by omega)
 have t3:(0≤s.Validators.Tokens.x3∧s.Validators.Tokens.x3≤1125899906842624)∧(0≤s.Validators.Lost.x3∧s.Validators.Lost.x3≤1125899906842624):=e 3 (by omega) (by omega)
 have t4:(0≤s.Validators.Tokens.x4∧s.Validators.Tokens.x4≤1125899906842624)∧(0≤s.Validators.Lost.x4∧s.Validators.Lost.x4≤1125899906842624):=e 4 (by omega) (by omega)
 have t5:(0≤s.Validators.Tokens.x5∧s.Validators.Tokens.x5≤1125899906842624)∧(0≤s.Validators.Lost.x5∧s.Validators.Lost.x5≤1125899906842624):=e 5 (by omega) (by omega)
 unfold sum6 at e1 e2
 obtain rfl | rfl | rfl | rfl | rfl | rfl:v=0∨v=1∨v=2∨v=3∨v=4∨v=5:=by omega
 ·show s.Validators.Tokens.x0≤_∧s.Validators.Lost.x0≤_;omega
 ·show s.Validators.Tokens.x1≤_∧s.Validators.Lost.x1≤_;omega
 ·show s.Validators.Tokens.x2≤_∧s.Validators.Lost.x2≤_;omega
 ·show s.Validators.Tokens.x3≤_∧s.Validators.Lost.x3≤_;omega
 ·show s.Validators.Tokens.x4≤_∧s.Validators.Lost.x4≤_;omega
 ·show s.Validators.Tokens.x5≤_∧s.Validators.Lost.x5≤_;omega
theorem zapc {b:Bank} {x y:Int} (hg:zif b) (h0:0≤x) (h1:x≤b.Bonded) (h2:0≤y) (h3:y≤b.Waiting) :
  zai2 b x y=(⟨b.Free,b.Bonded - x,b.Waiting - y,b.Burnt+x+y⟩,0)∧zif (zai2 b x y).1:=by
 have p1:okN b.Bonded:=hg.2.2.2.2.1
 have p2:okN b.Waiting:=hg.2.2.2.2.2.1
 unfold okN at p1 p2
 have e1:=zai4 (f:=4) (t:=6) (n:=x) hg h0 (by omega) h1
 have g1:=(zvb (f:=4) (t:=6) (n:=x) (.inr (.inr (.inr (.inl ⟨rfl,rfl⟩)))) hg h0 h1).1
 have e3:(plA (znl b 4 6 x)).get 5=b.Waiting:=by simp[znl,bkA,plA,A7.get,A7.set]
 have e2:=zai4 (f:=5) (t:=6) (n:=y) g1 h2 (by omega) (by rw[e3];exact h3)
 have g2:=(zvb (f:=5) (t:=6) (n:=y) (.inr (.inr (.inr (.inr ⟨rfl,rfl⟩)))) g1 h2 (by rw[e3];exact h3)).1
 have e:zai2 b x y=(znl (znl b 4 6 x) 5 6 y,0):=by
  unfold zai2
  rw[e1]
  simp only[e2]
  rw[if_neg (by simp),if_neg (by simp)]
 rw[e]
 refine ⟨?_,g2⟩
 simp[znl,bkA,plA,A7.get,A7.set]
theorem zaja {s:Stake} {v h f:Int}:zi3 s v h f=some (zkp s v h f):=by
 rw[zi3,zzw,Tr.rb (z3m _ _ _)]
 unfold zkp
 by_cases h0:zfr s 0 v=0
 ·obtain ⟨hg,hd,hv⟩:=zj0 h0
  obtain ⟨⟨hT,hS,hL,h4,h5⟩,_,_⟩:=hg.at hv
  rw[if_neg (by simpa using h0),Tr.rf (by simpa using h0),Tr.rg hv,Tr.rb zat2]
  by_cases hf:f < 0∨1000 < f
  ·have e:zri (s.Validators.Tokens.get v) f=(0,2):=by unfold zri;rw[if_pos (by omega)]
   rw[if_pos hf,e,Tr.rt (by rfl),Tr.rl]
  ·have hf':0≤f∧f≤1000:=by omega
   obtain ⟨b1,b2,b3⟩:=zqa hT hf'
   rw[if_neg hf,Tr.rf (by simpa using b1),Tr.rb (z8b hg.fit)]
   have key:∀ z:Stake,zpm v h f v (zri (s.Validators.Tokens.get v) f).1 0 s.Waits.length 0 s z s.Waits=some (v,(zri (s.Validators.Tokens.get v) f).1,sumN v h f s.Waits,s,z,s.Waits.map (slW v h f)):=by
    intro z
    rw[zpm]
    refine z3p (F:=fun s:Int×Int×Int×Int×Int×Int×Int×Int×Stake×Stake×(List Wait)=>(zin s.1 s.2.1 s.2.2.1 s.2.2.2.1 s.2.2.2.2.1 s.2.2.2.2.2.1 s.2.2.2.2.2.2.1 s.2.2.2.2.2.2.2.1 s.2.2.2.2.2.2.2.2.1 s.2.2.2.2.2.2.2.2.2.1 s.2.2.2.2.2.2.2.2.2.2).run) s.Waits default
     (fun i W t=>(v,h,f,v,(zri (s.Validators.Tokens.get v) f).1,t,(s.Waits.length:Int),(i:Int),s,z,W)) (SlI s) (slW v h f) (fun t w=>t+slN v h f w) (fun W t=>(v,(zri (s.Validators.Tokens.get v) f).1,t,s,z,W)) ?_ ?_ 0 (zad5 hg)
    ·intro W t hW _
     simp only[zin];rw[Tr.rf (by simp),Tr.rl]
    ·intro i W t hi hW hgi hI
     have h60:=hg.2.1.2.2
     obtain ⟨k1,k2,k3⟩:=zai9 hg (v:=v) (h:=h) hf' hi hI
     refine ⟨?_,k1⟩
     have ht:=hI.1
     simp only[zin]
     rw[yy4,hgi]
     obtain ⟨w,hw⟩:∃ w,w=s.Waits.getD i default:=⟨_,rfl⟩
     rw[← hw] at k2 k3 hgi ⊢
     rw[Tr.rt (by simpa using hi),Tr.rg ⟨by omega,by rw[z2];omega⟩]
     unfold slN at k3
     unfold slN slW
     by_cases hh:hitW v h w=true
     ·obtain ⟨c1,c2,c3⟩:=zqa k2 hf'
      unfold inA at k2
      rw[if_pos hh] at k3
      rw[Tr.rt (b:=w.V==v&&decide (w.Height≥h)) hh,Tr.rb zat2,Tr.rl,if_pos hh,if_pos hh,zl (by omega),zg (x:=t+_) (by omega) (by omega),zg (x:=w.Amount - _) (by omega) (by omega)]
     ·rw[Tr.rf (by unfold hitW at hh;simpa using hh),Tr.rl,if_neg hh,if_neg hh,zl (by omega),← hgi,z3o (by omega),Int.add_zero]
   have hsum:=zang hg (v:=v) (h:=h) hf'
   have htok:=z27 hg hv
   have o1:okN s.Bank.Waiting:=hg.1.2.2.2.2.2.1
   have o2:okN s.Bank.Bonded:=hg.1.2.2.2.2.1
   have o3:okN s.Bank.Burnt:=hg.1.2.2.2.2.2.2.1
   unfold okN at o1 o2 o3
   have hb:=(zapc hg.1 b2 (Int.le_trans b3 htok.1) hsum.1 hsum.2).1
   rw[Tr.rb (key _),Tr.rb za7q]
   unfold inA at hL hT
   unfold zhl
   simp only[]
   rw[Tr.rf (by rw[hb];rfl),Tr.rl]
   obtain ⟨x,hx⟩:∃ x,x=(zri (s.Validators.Tokens.get v) f).1:=⟨_,rfl⟩
   obtain ⟨y,hy⟩:∃ y,y=sumN v h f s.Waits:=⟨_,rfl⟩
   rw[← hx] at b2 b3 ⊢
   rw[← hy] at hsum ⊢
   rw[zg (x:=s.Validators.Tokens.get v - x) (by omega) (by omega),zg (x:=s.Validators.Lost.get v+x) (by omega) (by omega),zg (x:=s.Validators.Lost.get v+x+y) (by omega) (by omega),zg (x:=x+y) (by omega) (by omega),Int.add_assoc]
 ·rw[if_pos h0,Tr.rt (by simpa using h0),Tr.rl]
theorem z6i {s:Stake} {v h f:Int}:zq6 s v h f=some (zkp s v h f):=by
 rw[zq6,z51,Tr.rb (zai7 _ _ _)]
 unfold zkp
 by_cases h0:zfr s 0 v=0
 ·obtain ⟨hg,hd,hv⟩:=zj0 h0
  obtain ⟨⟨hT,hS,hL,h4,h5⟩,_,_⟩:=hg.at hv
  rw[if_neg (by simpa using h0),Tr.rf (by simpa using h0),Tr.rg hv,Tr.rb zags]
  by_cases hf:f < 0∨1000 < f
  ·have e:zri (s.Validators.Tokens.get v) f=(0,2):=by unfold zri;rw[if_pos (by omega)]
   rw[if_pos hf,e,Tr.rt (by rfl),Tr.rl]
  ·have hf':0≤f∧f≤1000:=by omega
   obtain ⟨b1,b2,b3⟩:=zqa hT hf'
   rw[if_neg hf,Tr.rf (by simpa using b1),Tr.rb (zyp hg.fit)]
   have key:∀ z:Stake,zux v h f (zri (s.Validators.Tokens.get v) f).1 0 s.Waits s.Waits.length 0 s z s=some (v,(zri (s.Validators.Tokens.get v) f).1,sumN v h f s.Waits,s,z,{ s with Waits:=s.Waits.map (slW v h f) }):=by
    intro z
    rw[zux]
    refine z3p (F:=fun s:Int×Int×Int×Int×Int×(List Wait)×Int×Int×Stake×Stake×Stake=>(zma s.1 s.2.1 s.2.2.1 s.2.2.2.1 s.2.2.2.2.1 s.2.2.2.2.2.1 s.2.2.2.2.2.2.1 s.2.2.2.2.2.2.2.1 s.2.2.2.2.2.2.2.2.1 s.2.2.2.2.2.2.2.2.2.1 s.2.2.2.2.2.2.2.2.2.2).run) s.Waits default
     (fun i W t=>(v,h,f,(zri (s.Validators.Tokens.get v) f).1,t,s.Waits,(s.Waits.length:Int),(i:Int),s,z,{ s with Waits:=W })) (SlI s) (slW v h f) (fun t w=>t+slN v h f w) (fun W t=>(v,(zri (s.Validators.Tokens.get v) f).1,t,s,z,{ s with Waits:=W })) ?_ ?_ 0 (zad5 hg)
    ·intro W t hW _
     simp only[zma];rw[Tr.rf (by simp),Tr.rl]
    ·intro i W t hi hW hgi hI
     have h60:=hg.2.1.2.2
     obtain ⟨k1,k2,k3⟩:=zai9 hg (v:=v) (h:=h) hf' hi hI
     refine ⟨?_,k1⟩
     have ht:=hI.1
     simp only[zma]
     rw[yy4]
     rw[hgi]
     obtain ⟨w,hw⟩:∃ w,w=s.Waits.getD i default:=⟨_,rfl⟩
     rw[← hw] at k2 k3 hgi ⊢
     rw[Tr.rt (by simpa using hi),Tr.rg ⟨by omega,by rw[z2];omega⟩]
     unfold slN at k3
     unfold slN slW
     by_cases hh:hitW v h w=true
     ·obtain ⟨c1,c2,c3⟩:=zqa k2 hf'
      unfold inA at k2
      rw[if_pos hh] at k3
      rw[Tr.rf (by unfold hitW at hh;simpa using hh),Tr.rb zags,Tr.rg ⟨by omega,by rw[z2];omega⟩,Tr.rl,if_pos hh,if_pos hh,zl (by omega),zg (x:=t+_) (by omega) (by omega),zg (x:=w.Amount - _) (by omega) (by omega)]
     ·rw[Tr.rt (by
       unfold hitW at hh
       simp only[Bool.or_eq_true,bne_iff_ne,decide_eq_true_eq]
       simp only[yy7,beq_iff_eq,decide_eq_true_eq] at hh
       omega),Tr.rl,if_neg hh,if_neg hh,zl (by omega),← hgi,z3o (by omega),Int.add_zero]
   have hsum:=zang hg (v:=v) (h:=h) hf'
   have htok:=z27 hg hv
   have o1:okN s.Bank.Waiting:=hg.1.2.2.2.2.2.1
   have o2:okN s.Bank.Bonded:=hg.1.2.2.2.2.1
   have o3:okN s.Bank.Burnt:=hg.1.2.2.2.2.2.2.1
   unfold okN at o1 o2 o3
   rw[Tr.rb (key _),Tr.rb zaqy]
   unfold inA at hL hT
   unfold zhl
   simp only[]
   iterate 4 rw[Tr.rg hv]
   rw[Tr.rl]
   obtain ⟨x,hx⟩:∃ x,x=(zri (s.Validators.Tokens.get v) f).1:=⟨_,rfl⟩
   obtain ⟨y,hy⟩:∃ y,y=sumN v h f s.Waits:=⟨_,rfl⟩
   rw[← hx] at b2 b3 ⊢
   rw[← hy] at hsum ⊢
   rw[zg (x:=s.Validators.Tokens.get v - x) (by omega) (by omega),zg (x:=x+y) (by omega) (by omega),zg (x:=s.Validators.Lost.get v+(x+y)) (by omega) (by omega)]
 ·rw[if_pos h0,Tr.rt (by simpa using h0),Tr.rl]
def ltL (a b:Power):Bool:=decide (b.N < a.N)||(a.N==b.N&&decide (a.V < b.V))
theorem zanh {a b:Power}:ltL a b=true↔b.N < a.N∨(a.N=b.N∧a.V < b.V):=by unfold ltL;simp
theorem zajb {a b:Power}:ltL a b=false↔¬ (b.N < a.N∨(a.N=b.N∧a.V < b.V)):=by rw[← zanh];simp
theorem swo_ltL:Sort.SWO ltL:=⟨fun x=>by rw[zajb];omega,fun x y z=>by simp only[zanh];omega,fun x y z=>by simp only[zajb];omega⟩
theorem zalc {lt:Power→Power→Bool} (a:Nat):∀ (j:Nat) (d:Array Power),j < d.size →
  (Sort.insInner lt a j d).size=d.size∧(∀ k,j < k→(Sort.insInner lt a j d)[k]! = d[k]!)∧∀ k,k≤j→∃ q,q≤j∧(Sort.insInner lt a j d)[k]! = d[q]!
 | 0,d,hj=>by
  unfold Sort.insInner
  exact ⟨rfl,fun _ _=>rfl,fun k hk=>⟨k,hk,rfl⟩⟩
 | j+1,d,hj=>by
  unfold Sort.insInner
  split
  ·obtain ⟨h1,h2,h3⟩:=zalc (lt:=lt) a j (Sort.swp d (j+1) j) (by rw[Sort.swp_size];omega)
   have g:=Sort.swp_get d hj (show j < d.size by omega)
   refine ⟨by rw[h1,Sort.swp_size],fun k hk=>?_,fun k hk=>?_⟩
   ·rw[h2 k (by omega),g,if_neg (by omega),if_neg (by omega)]
   ·by_cases he:k=j+1
    ·exact ⟨j,by omega,by rw[h2 k (by omega),g,if_neg (by omega),if_pos he]⟩
    ·obtain ⟨q,q1,q2⟩:=h3 k (by omega)
     by_cases hq:q=j
     ·exact ⟨j+1,by omega,by rw[q2,g,if_pos hq]⟩
     ·exact ⟨q,by omega,by rw[q2,g,if_neg hq,if_neg (by omega)]⟩
  ·exact ⟨rfl,fun _ _=>rfl,fun k hk=>⟨k,hk,rfl⟩⟩
theorem zapd (a:Nat):∀ (j:Nat) (d:Array Power),j < d.size→(∀ k,k < j→d[k]!.V < d[j]!.V)→Sort.insInner ltN a j d=Sort.insInner ltL a j d
 | 0,d,_,_=>by unfold Sort.insInner;rfl
 | j+1,d,hj,h=>by
  have e:ltN d[j+1]! d[j]! = ltL d[j+1]! d[j]! := by
   have:=h j (by omega)
   unfold ltN ltL
   rw[Bool.eq_iff_iff];simp;omega
  unfold Sort.insInner
  rw[e]
  split
  ·have g:=Sort.swp_get d hj (show j < d.size by omega)
   refine zapd a j _ (by rw[Sort.swp_size];omega) (fun k hk=>?_)
   rw[g,g,if_neg (by omega),if_neg (by omega),if_pos rfl]
   exact h k (by omega)
  ·rfl
theorem zald (a b:Nat):∀ (n i:Nat) (d:Array Power),b - i=n→b≤d.size→(∀ k m,k < m→i≤m→m < b→d[k]!.V < d[m]!.V)→Sort.insOuter ltN a b i d=Sort.insOuter ltL a b i d
 | 0,i,d,hn,_,_=>by
  rw[Sort.insOuter,if_neg (by omega),Sort.insOuter,if_neg (by omega)]
 | n+1,i,d,hn,hb,h=>by
  rw[Sort.insOuter,if_pos (by omega)]
  conv=>rhs;rw[Sort.insOuter,if_pos (show i < b by omega)]
  rw[zapd a i d (by omega) (fun k hk=>h k i hk (Nat.le_refl _) (by omega))]
  obtain ⟨h1,h2,h3⟩:=zalc (lt:=ltL) a i d (by omega)
  refine zald a b n (i+1) _ (by omega) (by rw[h1];exact hb) (fun k m hk hm hmb=>?_)
  rw[h2 m (by omega)]
  by_cases hki:k≤i
  ·obtain ⟨q,q1,q2⟩:=h3 k hki
   rw[q2]
   exact h q m (by omega) (by omega) hmb
  ·rw[h2 k (by omega)]
   exact h k m hk (by omega) hmb
theorem zauf {lt:Power→Power→Bool} (hs:Sort.SWO lt) (l:List Power):((Sort.insertionSort lt l.toArray 0 l.length).toList).Perm l∧((Sort.insertionSort lt l.toArray 0 l.length).toList).Pairwise (fun a b=>lt b a=false):=by
 obtain ⟨⟨h1,h2,h3⟩,h4⟩:=Sort.insertionSort_holds hs l.toArray 0 l.length (by omega) (by simp)
 obtain ⟨r,hr⟩:∃ r,r=Sort.insertionSort lt l.toArray 0 l.length:=⟨_,rfl⟩
 rw[← hr] at h1 h2 h3 h4 ⊢
 have hsz:r.size=l.length:=by rw[h1];simp
 refine ⟨?_,?_⟩
 ·have e1:(r.extract 0 l.length).toList=r.toList:=by rw[← hsz];simp
  have e2:(l.toArray.extract 0 l.length).toList=l:=by simp
  rwa [e1,e2] at h3
 ·rw[List.pairwise_iff_getElem]
  intro i j hi hj hij
  have:=h4 i j (by omega) hij (by simpa[hsz] using hj)
  rw[Array.length_toList] at hi hj
  rwa [getElem!_pos r j hj,getElem!_pos r i hi] at this
theorem zagx:∀ {l m:List Power},l.Pairwise (fun a b=>a.V < b.V)→m.Pairwise (fun a b=>a.V < b.V)→(∀ p,p∈l↔p∈m)→l=m
 | [],[],_,_,_=>rfl
 | [],b::m,_,_,h=>by have:=(h b).2 (List.mem_cons_self ..);cases this
 | a::l,[],_,_,h=>by have:=(h a).1 (List.mem_cons_self ..);cases this
 | a::l,b::m,hl,hm,h=>by
  rw[List.pairwise_cons] at hl hm
  have hab:a=b:=by
   rcases List.mem_cons.1 ((h a).1 (List.mem_cons_self ..)) with h1 | h1
   ·exact h1
   ·rcases List.mem_cons.1 ((h b).2 (List.mem_cons_self ..)) with h2 | h2
    ·exact h2.symm
    ·have k1:=hm.1 a h1
     have k2:=hl.1 b h2
     omega
  subst hab
  congr 1
  refine zagx hl.2 hm.2 fun p=>⟨fun hp=>?_,fun hp=>?_⟩
  ·rcases List.mem_cons.1 ((h p).1 (List.mem_cons_of_mem _ hp)) with h1 | h1
   ·have:=hl.1 p hp;rw[h1] at this;omega
   ·exact h1
  ·rcases List.mem_cons.1 ((h p).2 (List.mem_cons_of_mem _ hp)) with h1 | h1
   ·have:=hm.1 p hp;rw[h1] at this;omega
   ·exact h1
theorem zape {R:Power→Power→Bool} (hi:∀ a,R a a=false) (ha:∀ a b,R a b=true→R b a=false):∀ {l:List Power} {k:Nat} {p:Power},l.Pairwise (fun a b=>R a b=true)→(p∈l.take k↔p∈l∧l.countP (fun q=>R q p) < k)
 | [],k,p,_=>by simp
 | a::l,0,p,_=>by simp
 | a::l,k+1,p,h=>by
  rw[List.pairwise_cons] at h
  rw[List.take_succ_cons,List.mem_cons,List.mem_cons,zape hi ha h.2,List.countP_cons]
  by_cases hpa:p=a
  ·subst hpa
   have h0:l.countP (fun q=>R q p)=0:=by
    rw[List.countP_eq_zero]
    intro q hq
    rw[ha _ _ (h.1 q hq)];simp
   rw[h0,hi];simp
  ·simp only[hpa,false_or]
   constructor
   ·rintro ⟨h1,h2⟩
    rw[h.1 p h1]
    exact ⟨h1,by simp;omega⟩
   ·rintro ⟨h1,h2⟩
    rw[h.1 p h1] at h2
    simp at h2
    exact ⟨h1,by omega⟩
def z8e (f:Nat→Int) (v u:Nat):Bool:=decide (f u > f v)||(f u==f v&&decide ((u:Int) < v))
def z8f (f:Nat→Int) (v:Nat):Nat:=(List.range 6).countP (z8e f v)
def topF (f:Nat→Int) (v:Nat):Int:=if z8f f v < 4 then f v else 0
theorem z9w (f:Nat→Int):zox f=(List.range 6).flatMap (fun (v:Nat)=>z2x (v:Int) (f v)):=by
 unfold zox
 rw[List.foldl_append_eq_append,List.nil_append,List.flatMap_def]
theorem mem_oneP {v n:Int} {p:Power}:p∈z2x v n↔0 < n∧p=⟨v,n⟩:=by
 unfold z2x
 by_cases h:0 < n
 ·rw[if_pos h];simp[h]
 ·rw[if_neg h];simp[h]
theorem mem_setOf {f:Nat→Int} {p:Power}:p∈zox f↔∃ v:Nat,v < 6∧0 < f v∧p=⟨v,f v⟩:=by
 rw[z9w,List.mem_flatMap]
 constructor
 ·rintro ⟨v,h1,h2⟩;exact ⟨v,List.mem_range.1 h1,mem_oneP.1 h2⟩
 ·rintro ⟨v,h1,h2⟩;exact ⟨v,List.mem_range.2 h1,mem_oneP.2 h2⟩
theorem z28 (f:Nat→Int):(zox f).Pairwise (fun a b=>a.V < b.V):=by
 rw[z9w,List.pairwise_flatMap]
 refine ⟨fun v _=>?_,?_⟩
 ·unfold z2x;split<;>simp
 ·refine List.Pairwise.imp ?_ (List.pairwise_lt_range (n:=6))
  intro u v huv x hx y hy
  rw[(mem_oneP.1 hx).2,(mem_oneP.1 hy).2]
  show (u:Int) < v
  omega
theorem zagy {p:Power→Bool} {q:Nat→Bool} {g:Nat→List Power}:∀ {l:List Nat},(∀ u,u∈l→(g u).countP p=if q u=true then 1 else 0)→(l.flatMap g).countP p=l.countP q
 | [],_=>rfl
 | u::l,h=>by
  rw[List.flatMap_cons,List.countP_append,h u (List.mem_cons_self ..),zagy fun x hx=>h x (List.mem_cons_of_mem _ hx),List.countP_cons,Nat.add_comm]
theorem zad6 {f:Nat→Int} {v:Nat} (hv:0 < f v):(zox f).countP (fun q=>ltL q ⟨v,f v⟩)=z8f f v:=by
 rw[z9w]
 refine zagy fun u _=>?_
 unfold z2x
 by_cases hu:0 < f u
 ·rw[if_pos hu,List.countP_singleton]
  have e:ltL ⟨u,f u⟩ ⟨v,f v⟩=z8e f v u:=rfl
  rw[e]
 ·rw[if_neg hu,List.countP_nil]
  have e:z8e f v u=false:=by
   unfold z8e
   simp only[Bool.or_eq_false_iff,Bool.and_eq_false_iff,yy8,beq_eq_false_iff_ne]
   omega
  rw[e];simp
theorem za0j {f:Nat→Int} (hf:∀ v,0≤f v):∃ l1,zacf ltN (zox f)=some l1∧l1.length≤6∧zacf ltV (l1.take 4)=some (zox (topF f)):=by
 have h6:=z2z f
 have hs:=z28 f
 have e1:Sort.insertionSort ltN (zox f).toArray 0 (zox f).length=Sort.insertionSort ltL (zox f).toArray 0 (zox f).length:=by
  unfold Sort.insertionSort
  refine zald 0 _ _ 1 _ rfl (by simp) (fun k m hkm h1 hm=>?_)
  rw[List.pairwise_iff_getElem] at hs
  have:=hs k m (by omega) hm hkm
  rwa [getElem!_pos _ m (by simpa using hm),getElem!_pos _ k (by simp;omega)]
 obtain ⟨p1,p2⟩:=zauf swo_ltL (zox f)
 obtain ⟨l1,hl1⟩:∃ l1,l1=(Sort.insertionSort ltL (zox f).toArray 0 (zox f).length).toList:=⟨_,rfl⟩
 rw[← hl1] at p1 p2
 have hlen:l1.length≤6:=by rw[p1.length_eq];exact h6
 have hnd:(zox f).Pairwise (fun a b=>a.V≠b.V):=hs.imp fun h=>by omega
 have hnd1:l1.Pairwise (fun a b=>a.V≠b.V):=(p1.pairwise_iff (fun h=>Ne.symm h)).2 hnd
 have hL:l1.Pairwise (fun a b=>ltL a b=true):=by
  refine List.Pairwise.imp₂ (R:=fun a b=>a.V≠b.V) (S:=fun a b=>ltL b a=false) ?_ hnd1 p2
  intro a b h1 h2
  rw[zajb] at h2
  rw[zanh];omega
 refine ⟨l1,?_,hlen,?_⟩
 ·unfold zacf
  rw[if_pos (by omega),e1,hl1]
 ·obtain ⟨q1,q2⟩:=zauf zasz (l1.take 4)
  have h4:(l1.take 4).length≤12:=by rw[List.length_take];omega
  unfold zacf
  rw[if_pos h4]
  congr 1
  obtain ⟨l2,hl2⟩:∃ l2,l2=(Sort.insertionSort ltV (l1.take 4).toArray 0 (l1.take 4).length).toList:=⟨_,rfl⟩
  rw[← hl2] at q1 q2 ⊢
  have hnd2:l2.Pairwise (fun a b=>a.V≠b.V):=(q1.pairwise_iff (fun h=>Ne.symm h)).2 (hnd1.sublist (List.take_sublist _ _))
  refine zagx ?_ (z28 _) ?_
  ·refine List.Pairwise.imp₂ (R:=fun a b=>a.V≠b.V) (S:=fun a b=>ltV b a=false) ?_ hnd2 q2
   intro a b h1 h2
   unfold ltV at h2
   rw[yy8] at h2
   omega
  ·intro p
   rw[q1.mem_iff,zape swo_ltL.irrefl (fun a b h=>swo_ltL.asymmA h) hL,p1.mem_iff,p1.countP_eq,mem_setOf,mem_setOf]
   constructor
   ·rintro ⟨⟨v,hv,hp,rfl⟩,hc⟩
    rw[zad6 hp] at hc
    have e:topF f v=f v:=by unfold topF;rw[if_pos hc]
    exact ⟨v,hv,by rw[e];exact hp,by rw[e]⟩
   ·rintro ⟨v,hv,hp,rfl⟩
    have hc:z8f f v < 4:=by
     unfold topF at hp
     by_cases h:z8f f v < 4
     ·exact h
     ·rw[if_neg h] at hp;omega
    have e:topF f v=f v:=by unfold topF;rw[if_pos hc]
    rw[e] at hp ⊢
    exact ⟨⟨v,hv,hp,rfl⟩,by rw[zad6 hp];exact hc⟩
def nvF (s:Stake) (v:Nat):Int:=if s.Validators.Jailed.get v=true then 0 else s.Validators.Tokens.get v / 100
def setS (s:Stake):List Power:=zox (topF (nvF s))
theorem zbhq {s:Stake} (hg:GoodS s) {v:Nat} (hv:v < 6):0≤nvF s v∧nvF s v≤1125899906842624:=by
 have h:=(hg.at (v:=v) (by omega)).1.1
 unfold inA at h
 unfold nvF
 split<;>omega
def cutF (f:Nat→Int) (v:Nat):Int:=if v < 6 then f v else 0
theorem zaug (f:Nat→Int):zox (cutF f)=zox f:=zadu fun v hv=>by unfold cutF;rw[if_pos hv]
theorem za0k (f:Nat→Int) {v:Nat} (hv:v < 6):topF (cutF f) v=topF f v:=by
 have e:∀ u,u < 6→cutF f u=f u:=fun u hu=>by unfold cutF;rw[if_pos hu]
 have e2:z8f (cutF f) v=z8f f v:=by
  unfold z8f
  refine List.countP_congr fun u hu=>?_
  unfold z8e
  rw[e u (List.mem_range.1 hu),e v hv]
 unfold topF
 rw[e2,e v hv]
theorem zauh {x:Int} (h:inA x):i64.wrap (Int.tdiv x 100)=x / 100:=by
 unfold inA at h
 rw[Int.tdiv_eq_ediv_of_nonneg h.1,zg (by omega) (by omega)]
theorem zbhr {s:Stake} (hg:GoodS s):z2d s=some (setS s):=by
 have key:zub (vsA s) 0 []=some (zox (nvF s)):=by
  rw[zub]
  refine zcd (F:=fun s:(A6 zi)×Int×(List Power)=>(zl6 s.1 s.2.1 s.2.2).run) (List.range 6) 0
   (fun i t=>(vsA s,(i:Int),t)) (fun i t=>t.length≤i) (fun t (v:Nat)=>t++z2x v (nvF s v)) (fun t=>t) ?_ ?_ [] (by simp)
  ·intro t _
   simp only[zl6,List.length_range];rw[Tr.rf (by rfl),Tr.rl]
  ·intro i t hi ht
   rw[List.length_range] at hi
   rw[znj hi]
   have h1:=z76 i (nvF s i)
   have h2:=(hg.at (v:=i) (by omega)).1.1
   refine ⟨?_,by rw[yy6];omega⟩
   simp only[zl6]
   rw[zaq1,zaq0,zauh h2,Tr.rt (by simp;omega),Tr.rg (by omega),Tr.rg (by omega)]
   unfold z2x
   by_cases hj:s.Validators.Jailed.get i=true
   ·have e:nvF s i=0:=by unfold nvF;rw[if_pos hj]
    rw[Tr.rf (by rw[hj];rfl),Tr.rl,e,if_neg (by omega),List.append_nil,zl (by omega)]
   ·have e:nvF s i=s.Validators.Tokens.get i / 100:=by unfold nvF;rw[if_neg hj]
    rw[e]
    by_cases hp:0 < s.Validators.Tokens.get i / 100
    ·rw[if_pos hp,Tr.rt (by simp only[yy7,Bool.not_eq_true',decide_eq_true_eq];exact ⟨by simpa using hj,hp⟩),Tr.rg (by simp only[zo,yy5];omega),Tr.rl,zl (by omega)]
    ·rw[if_neg hp,Tr.rf (by simp only[Bool.and_eq_false_iff,yy8];exact .inr hp),Tr.rl,zl (by omega),List.append_nil]
 have hc:∀ v,0≤cutF (nvF s) v:=by
  intro v
  unfold cutF
  split
  ·rename_i h;exact (zbhq hg h).1
  ·omega
 obtain ⟨l1,h1,h2,h3⟩:=za0j hc
 rw[zaug] at h1
 rw[zadu (fun v hv=>za0k (nvF s) hv)] at h3
 rw[z2d,z5y]
 refine (Tr.rb key).trans ?_
 rw[Tr.rb (show ztt (zox (nvF s))=some l1 from h1),Tr.rg (by rw[zo];split<;>omega)]
 have e:(l1.drop 0).take ((if 4 < ((l1.length:Nat):Int) then 4 else ((l1.length:Nat):Int)).toNat - 0)=l1.take 4:=by
  rw[List.drop_zero]
  by_cases h:4 < ((l1.length:Nat):Int)
  ·rw[if_pos h];rfl
  ·rw[if_neg h,List.take_of_length_le (by omega),List.take_of_length_le (by omega)]
 rw[e,Tr.rb (show z6z (l1.take 4)=some (zox (topF (nvF s))) from h3),Tr.rl]
 rfl
def zaq3 (f:Nat→Int) (i:Nat):A6 Int:=⟨if 0 < i then f 0 else 0,if 1 < i then f 1 else 0,if 2 < i then f 2 else 0,if 3 < i then f 3 else 0,if 4 < i then f 4 else 0,if 5 < i then f 5 else 0⟩
theorem zaui (f:Nat→Int) {i:Nat} (hi:i < 6):(zaq3 f i).set (i:Int) (f i)=zaq3 f (i+1):=by
 obtain rfl | rfl | rfl | rfl | rfl | rfl:i=0∨i=1∨i=2∨i=3∨i=4∨i=5:=by omega
 all_goals rfl
theorem zaq4 (f:Nat→Int) {i:Nat} (hi:i < 6) (h:f i=0):zaq3 f i=zaq3 f (i+1):=by
 obtain rfl | rfl | rfl | rfl | rfl | rfl:i=0∨i=1∨i=2∨i=3∨i=4∨i=5:=by omega
 all_goals simp[zaq3,h]
theorem zagz (p:Nat→Bool):∀ (l:List Nat) (t:Int),l.foldl (fun t u=>if p u=true then t+1 else t) t=t+(l.countP p:Int)
 | [],t=>by simp
 | u::l,t=>by
  rw[List.foldl_cons,zagz p l,List.countP_cons]
  split<;>(simp only[Nat.add_zero,Int.natCast_add,Int.natCast_one];try omega)
theorem zauj {s:Stake} (hg:GoodS s):z9k s=some (setS s):=by
 have k1:zz4 (vsA s) 0 (⟨0,0,0,0,0,0⟩:A6 Int)=some ⟨nvF s 0,nvF s 1,nvF s 2,nvF s 3,nvF s 4,nvF s 5⟩:=by
  rw[zz4]
  exact zb7 (F:=fun s:(A6 zi)×Int×(A6 Int)=>(zq7 s.1 s.2.1 s.2.2).run) 6 (fun i t=>(vsA s,(i:Int),t)) (fun i t=>t=zaq3 (nvF s) i) (fun _ _=>(⟨nvF s 0,nvF s 1,nvF s 2,nvF s 3,nvF s 4,nvF s 5⟩:A6 Int)) (by
    intro t ht
    simp only[zq7];rw[Tr.rf (by rfl),Tr.rl,ht];rfl) (by
    intro i t hi ht
    have h2:=(hg.at (v:=i) (by omega)).1.1
    simp only[zq7]
    rw[zaq1,zaq0,zauh h2,Tr.rt (by simp;omega),Tr.rg (by omega)]
    by_cases hj:s.Validators.Jailed.get i=true
    ·have e:nvF s i=0:=by unfold nvF;rw[if_pos hj]
     exact .inl ⟨t,by rw[Tr.rf (by rw[hj];rfl),Tr.rl,zl (by omega)],by rw[ht,zaq4 _ hi e],trivial⟩
    ·have e:nvF s i=s.Validators.Tokens.get i / 100:=by unfold nvF;rw[if_neg hj]
     refine .inl ⟨t.set i (nvF s i),by rw[Tr.rt (by simpa using hj),Tr.rg (by omega),Tr.rg (by omega),Tr.rl,zl (by omega),e],by rw[ht,zaui _ hi],trivial⟩) 0 _ (by omega) rfl
 have k2:∀ (v:Nat) (l:List Power),v < 6→zz5 v 0 v 0 (⟨nvF s 0,nvF s 1,nvF s 2,nvF s 3,nvF s 4,nvF s 5⟩:A6 Int) l=some ((v:Int),(z8f (nvF s) v:Int),(v:Int),(⟨nvF s 0,nvF s 1,nvF s 2,nvF s 3,nvF s 4,nvF s 5⟩:A6 Int),l):=by
  intro v l hv
  have:=zcd (F:=fun s:Int×Int×Int×Int×(A6 Int)×(List Power)=>(zq8 s.1 s.2.1 s.2.2.1 s.2.2.2.1 s.2.2.2.2.1 s.2.2.2.2.2).run) (List.range 6) 0
   (fun i t=>((v:Int),t,(v:Int),(i:Int),(⟨nvF s 0,nvF s 1,nvF s 2,nvF s 3,nvF s 4,nvF s 5⟩:A6 Int),l)) (fun i t=>0≤t∧t≤i) (fun t u=>if z8e (nvF s) v u=true then t+1 else t) (fun t=>((v:Int),t,(v:Int),(⟨nvF s 0,nvF s 1,nvF s 2,nvF s 3,nvF s 4,nvF s 5⟩:A6 Int),l)) (by
    intro t _
    simp only[zq8,List.length_range];rw[Tr.rf (by rfl),Tr.rl]) (by
    intro i t hi ht
    rw[List.length_range] at hi
    rw[znj hi]
    refine ⟨?_,by split<;>omega⟩
    simp only[zq8]
    rw[zago (nvF s) hi,zago (nvF s) hv,Tr.rt (by simp;omega),Tr.rg (by omega),Tr.rg (by omega),Tr.rg (fun _=>⟨by omega,trivial⟩),Tr.rg (fun _=>⟨by omega,trivial⟩)]
    by_cases ha:z8e (nvF s) v i=true
    ·rw[if_pos ha,Tr.rt (by unfold z8e at ha;exact ha),Tr.rl,zl (by omega),zg (by omega) (by omega)]
    ·rw[if_neg ha,Tr.rf (by unfold z8e at ha;simpa using ha),Tr.rl,zl (by omega)]) 0 ⟨by omega,by omega⟩
  rw[zagz,Int.zero_add] at this
  rw[zz5]
  exact this
 have k3:zz6 0 (⟨nvF s 0,nvF s 1,nvF s 2,nvF s 3,nvF s 4,nvF s 5⟩:A6 Int) []=some (setS s):=by
  rw[zz6]
  refine zcd (F:=fun s:Int×(A6 Int)×(List Power)=>(zq9 s.1 s.2.1 s.2.2).run) (List.range 6) 0
   (fun i t=>((i:Int),(⟨nvF s 0,nvF s 1,nvF s 2,nvF s 3,nvF s 4,nvF s 5⟩:A6 Int),t)) (fun i t=>t.length≤i) (fun t (v:Nat)=>t++z2x v (topF (nvF s) v)) (fun t=>t) ?_ ?_ [] (by simp)
  ·intro t _
   simp only[zq9,List.length_range];rw[Tr.rf (by rfl),Tr.rl]
  ·intro i t hi ht
   rw[List.length_range] at hi
   rw[znj hi]
   have h1:=z76 i (topF (nvF s) i)
   refine ⟨?_,by rw[yy6];omega⟩
   simp only[zq9]
   rw[Tr.rt (by simp;omega),Tr.rb (k2 i t hi)]
   simp only[]
   rw[zago (nvF s) hi,Tr.rg (by omega)]
   unfold topF
   by_cases ha:z8f (nvF s) i < 4
   ·rw[if_pos ha]
    unfold z2x
    by_cases hp:0 < nvF s i
    ·rw[if_pos hp,Tr.rt (by simp only[yy7,decide_eq_true_eq];omega),Tr.rg (by omega),Tr.rg (by simp only[zo,yy5];omega),Tr.rl,zl (by omega)]
    ·rw[if_neg hp,Tr.rf (by simp only[Bool.and_eq_false_iff,yy8];omega),Tr.rl,zl (by omega),List.append_nil]
   ·rw[if_neg ha,Tr.rf (by simp only[Bool.and_eq_false_iff,yy8];omega),Tr.rl,zl (by omega)]
    show _=some (Sum.inl (_,_,t++z2x (i:Int) 0))
    rw[show z2x (i:Int) 0=[] from rfl,List.append_nil]
 rw[z9k,zadk]
 exact (Tr.rb k1).trans ((Tr.rb k3).trans (Tr.rl _))
theorem za0l {s:Stake} (h:s.Waits.length≤9223372036854775807):ziv s s=some true:=by
 have key:zm3 s.Waits.length 0 s s=some (.inr ()):=by
  rw[zm3]
  refine (zwh (F:=fun s:Int×Int×Stake×Stake=>(zf8 s.1 s.2.1 s.2.2.1 s.2.2.2).run) s.Waits default (fun i=>((s.Waits.length:Int),(i:Int),s,s)) (fun _=>true) false () ?_ ?_ ?_).trans ?_
  ·simp only[zf8];rw[Tr.rf (by simp),Tr.rl]
  ·intro i hi _
   simp only[zf8]
   rw[yy4,Tr.rt (by simpa using hi),Tr.rg ⟨by omega,by rw[z2];omega⟩,Tr.rg ⟨by omega,by rw[z2];omega⟩,Tr.rf (by simp),Tr.rl,zl (by omega)]
  ·intro i hi hp;cases hp
  ·rw[if_pos (by simp)]
 rw[ziv,zut,Tr.rf (by simp),Tr.rj key,Tr.rl]
def zbhs:Validators:=⟨⟨0,0,0,0,0,0⟩,⟨0,0,0,0,0,0⟩,⟨0,0,0,0,0,0⟩,⟨false,false,false,false,false,false⟩,⟨false,false,false,false,false,false⟩⟩
def newS:Stake:=⟨newB,zbhs,⟨⟨0,0,0,0,0,0⟩,⟨0,0,0,0,0,0⟩,⟨0,0,0,0,0,0⟩,⟨0,0,0,0,0,0⟩⟩,[],1⟩
theorem zani:z15=some newS:=by
 rw[z15,z5u,Tr.rb zaqz,Tr.rl];rfl
theorem zafp:zur=some newS:=by
 rw[zur,zxi,Tr.rb zat5,Tr.rl];rfl
theorem zale (s:Stake) (v k:Int):(zda s v k).1.Waits=s.Waits:=by
 unfold zda
 repeat' split
 all_goals rfl
def fP (a:List Power) (v:Nat):Int:=zc8 a v
theorem za0m {a b:List Power} (ha:a.length≤9223372036854775807) (hb:b.length≤9223372036854775807):zf5 a b=some (z00 (fP a) (fP b)):=by
 have key:zr1 a b 0 []=some (z00 (fP a) (fP b)):=by
  rw[zr1]
  refine zcd (F:=fun s:(List Power)×(List Power)×Int×(List Power)=>(zj9 s.1 s.2.1 s.2.2.1 s.2.2.2).run) (List.range 6) 0
   (fun i t=>(a,b,(i:Int),t)) (fun i t=>t.length≤i) (fun t (v:Nat)=>t++twoP v (fP b v) (fP a v)) (fun t=>t) ?_ ?_ [] (by simp)
  ·intro t _
   simp only[zj9,List.length_range];rw[Tr.rf (by rfl),Tr.rl]
  ·intro i t hi ht
   rw[List.length_range] at hi
   rw[znj hi]
   have h1:=zwi i (fP b i) (fP a i)
   refine ⟨?_,by rw[yy6];omega⟩
   simp only[zj9]
   rw[Tr.rt (by simp;omega),Tr.rb (zam8 hb),Tr.rb (zam8 ha)]
   unfold fP twoP
   by_cases hp:zc8 b i≠zc8 a i
   ·rw[if_pos hp,Tr.rt (by simpa using hp),Tr.rg (by simp only[zo,yy5];omega),Tr.rl,zl (by omega)]
   ·rw[if_neg hp,Tr.rf (by simpa using hp),Tr.rl,zl (by omega),List.append_nil]
 rw[zf5,z2c,Tr.rb key,Tr.rl]
theorem zaq5 {a b:List Power} (ha:a.length≤9223372036854775807) (hb:b.length≤9223372036854775807):zkc a b=some (z00 (fP a) (fP b)):=by
 have key:zxk 0 (rowA a) (rowA b) []=some (z00 (fP a) (fP b)):=by
  rw[zxk]
  refine zcd (F:=fun s:Int×(A6 Int)×(A6 Int)×(List Power)=>(zoj s.1 s.2.1 s.2.2.1 s.2.2.2).run) (List.range 6) 0
   (fun i t=>((i:Int),rowA a,rowA b,t)) (fun i t=>t.length≤i) (fun t (v:Nat)=>t++twoP v (fP b v) (fP a v)) (fun t=>t) ?_ ?_ [] (by simp)
  ·intro t _
   simp only[zoj,List.length_range];rw[Tr.rf (by rfl),Tr.rl]
  ·intro i t hi ht
   rw[List.length_range] at hi
   rw[znj hi]
   have h1:=zwi i (fP b i) (fP a i)
   refine ⟨?_,by rw[yy6];omega⟩
   have ea:(rowA a).get (i:Int)=fP a i:=zago (fP a) hi
   have eb:(rowA b).get (i:Int)=fP b i:=zago (fP b) hi
   simp only[zoj]
   rw[ea,eb,Tr.rt (by simp;omega),Tr.rg (by omega),Tr.rg (by omega)]
   unfold twoP
   by_cases hp:fP b i≠fP a i
   ·rw[if_pos hp,Tr.rt (by simpa using Ne.symm hp),Tr.rg (by omega),Tr.rg (by simp only[zo,yy5];omega),Tr.rl,zl (by omega)]
   ·rw[if_neg hp,Tr.rf (by simp at hp;simp[hp]),Tr.rl,zl (by omega),List.append_nil]
 rw[zkc,z9i,Tr.rb (zakx ha),Tr.rb (zakx hb),Tr.rb key,Tr.rl]
def allP (l:List Power):Int:=l.foldl (fun t p=>i64.wrap (t+p.N)) 0
theorem za31 {l:List Power} (hl:l.length≤9223372036854775807):zq0 l=some (allP l):=by
 have key:zua 0 l l.length 0=some (allP l):=by
  rw[zua]
  refine zcd (F:=fun s:Int×(List Power)×Int×Int=>(zl5 s.1 s.2.1 s.2.2.1 s.2.2.2).run) l default (fun i t=>(t,l,(l.length:Int),(i:Int))) (fun _ _=>True) (fun t p=>i64.wrap (t+p.N)) (fun t=>t) ?_ ?_ 0 trivial
  ·intro t _
   simp only[zl5];rw[Tr.rf (by simp),Tr.rl]
  ·intro i t hi _
   refine ⟨?_,trivial⟩
   simp only[zl5]
   rw[yy4,Tr.rt (by simpa using hi),Tr.rg ⟨by omega,by rw[zo];omega⟩,Tr.rl,zl (by omega)]
 rw[zq0,z5x,Tr.rb key,Tr.rl]
theorem zapf {l:List Power} (hl:l.length≤9223372036854775807):zq5 l=some (allP l):=by
 have key:zuw 0 l l.length 0=some (allP l):=by
  rw[zuw]
  refine zcd (F:=fun s:Int×(List Power)×Int×Int=>(zl9 s.1 s.2.1 s.2.2.1 s.2.2.2).run) l default (fun i t=>(t,l,(l.length:Int),(i:Int))) (fun _ _=>True) (fun t p=>i64.wrap (t+p.N)) (fun t=>t) ?_ ?_ 0 trivial
  ·intro t _
   simp only[zl9];rw[Tr.rf (by simp),Tr.rl]
  ·intro i t hi _
   refine ⟨?_,trivial⟩
   simp only[zl9]
   rw[yy4,Tr.rt (by simpa using hi),Tr.rg ⟨by omega,by rw[zo];omega⟩,Tr.rl,zl (by omega)]
 rw[zq5,z50,Tr.rb key,Tr.rl]
theorem zyr {α:Type} (a:A6 α) {i j:Int} (y:α) (hi:0≤i∧i < 6) (hj:0≤j∧j < 6):(a.set i y).get j=if j=i then y else a.get j:=by
 obtain rfl | rfl | rfl | rfl | rfl | rfl:j=0∨j=1∨j=2∨j=3∨j=4∨j=5:=by omega
 all_goals
  obtain rfl | rfl | rfl | rfl | rfl | rfl:i=0∨i=1∨i=2∨i=3∨i=4∨i=5:=by omega
  all_goals rfl
theorem zih {α:Type} (a:A6 α) {i:Int} (y:α) (hi:0≤i∧i < 6):(a.set i y).get i=y:=by rw[zyr a y hi hi,if_pos rfl]
theorem zhr {α:Type} (a:A6 α) {i j:Int} (y:α) (hi:0≤i∧i < 6) (hj:0≤j∧j < 6) (h:j≠i):(a.set i y).get j=a.get j:=by rw[zyr a y hi hj,if_neg h]
theorem zabw (a:A6 Int) {i:Int} (y:Int) (hi:0≤i∧i < 6):sum6 (a.set i y)=sum6 a - a.get i+y:=by
 obtain rfl | rfl | rfl | rfl | rfl | rfl:i=0∨i=1∨i=2∨i=3∨i=4∨i=5:=by omega
 ·show y+a.x1+a.x2+a.x3+a.x4+a.x5=a.x0+a.x1+a.x2+a.x3+a.x4+a.x5 - a.x0+y;omega
 ·show a.x0+y+a.x2+a.x3+a.x4+a.x5=a.x0+a.x1+a.x2+a.x3+a.x4+a.x5 - a.x1+y;omega
 ·show a.x0+a.x1+y+a.x3+a.x4+a.x5=a.x0+a.x1+a.x2+a.x3+a.x4+a.x5 - a.x2+y;omega
 ·show a.x0+a.x1+a.x2+y+a.x4+a.x5=a.x0+a.x1+a.x2+a.x3+a.x4+a.x5 - a.x3+y;omega
 ·show a.x0+a.x1+a.x2+a.x3+y+a.x5=a.x0+a.x1+a.x2+a.x3+a.x4+a.x5 - a.x4+y;omega
 ·show a.x0+a.x1+a.x2+a.x3+a.x4+y=a.x0+a.x1+a.x2+a.x3+a.x4+a.x5 - a.x5+y;omega
theorem zalf (a:A4 (A6 Int)) (d v y:Int):A46.set a d v y=⟨if d=0 then a.x0.set v y else a.x0,if d=1 then a.x1.set v y else a.x1,if d=2 then a.x2.set v y else a.x2,if d=3 then a.x3.set v y else a.x3⟩:=by
 unfold A46.set A6.set
 congr 1
 ·by_cases h:d=0<;>simp[h]
 ·by_cases h:d=1<;>simp[h]
 ·by_cases h:d=2<;>simp[h]
 ·by_cases h:d=3<;>simp[h]
theorem z0i (a:A4 (A6 Int)) {d v d' v':Int} (y:Int) (hd:0≤d∧d < 4) (hv:0≤v∧v < 6) (hd':0≤d'∧d' < 4) (hv':0≤v'∧v' < 6):A46.get (A46.set a d v y) d' v'=if d'=d∧v'=v then y else A46.get a d' v':=by
 have key:∀ (p:Prop) [Decidable p] (r:A6 Int),(if p then r.set v y else r).get v'=if p∧v'=v then y else r.get v':=by
  intro p _ r
  by_cases h:p
  ·rw[if_pos h,zyr r y hv hv'];simp[h]
  ·rw[if_neg h,if_neg (fun x=>h x.1)]
 rw[zalf]
 obtain rfl | rfl | rfl | rfl:d'=0∨d'=1∨d'=2∨d'=3:=by omega
 ·refine (key (d=0) a.x0).trans ?_
  simp only[eq_comm (a:=d)];rfl
 ·refine (key (d=1) a.x1).trans ?_
  simp only[eq_comm (a:=d)];rfl
 ·refine (key (d=2) a.x2).trans ?_
  simp only[eq_comm (a:=d)];rfl
 ·refine (key (d=3) a.x3).trans ?_
  simp only[eq_comm (a:=d)];rfl
theorem z0j {s t:Stake} {v:Int} (hT:t.Validators.Tokens.get v=s.Validators.Tokens.get v) (hS:t.Validators.Shares.get v=s.Validators.Shares.get v) (hL:t.Validators.Lost.get v=s.Validators.Lost.get v)
  (hJ:t.Validators.Jailed.get v=s.Validators.Jailed.get v) (hD:t.Validators.Dead.get v=s.Validators.Dead.get v) (hs:∀ d:Int,0≤d→d < 4→A46.get t.Shares d v=A46.get s.Shares d v) (h:zabc s v):zabc t v:=by
 obtain ⟨h1,h2,h3⟩:=h
 unfold zabc zad3 shr
 rw[hT,hS,hL,hJ,hD,hs 0 (by omega) (by omega),hs 1 (by omega) (by omega),hs 2 (by omega) (by omega),hs 3 (by omega) (by omega)]
 exact ⟨h1,fun d hd=>by rw[hs d (by omega) (by omega)];exact h2 d hd,h3⟩
theorem zad7 {n n':Int}:∀ {l:List Wait} {p p':Int},zhq n p l→n≤n'→p'≤p→zhq n' p' l
 | [],_,_,_,_,_=>trivial
 | w::l,p,p',h,hn,hp=>by
  obtain ⟨h1,h2,h3⟩:=h.1
  exact ⟨⟨by omega,by omega,h3⟩,zad7 h.2 hn (Int.le_refl _)⟩
theorem zad8 {n:Int} {w:Wait} (hw:w.Number=n) (h:0≤w.D∧w.D < 4∧0≤w.V∧w.V < 6∧inA w.Amount∧0≤w.Height∧0≤w.Due):∀ {l:List Wait} {p:Int},p < n→zhq n p l→zhq (n+1) p (l++[w])
 | [],p,hp,_=>⟨⟨by omega,by omega,h⟩,trivial⟩
 | a::l,p,hp,hl=>by
  obtain ⟨h1,h2,h3⟩:=hl.1
  exact ⟨⟨h1,by omega,h3⟩,zad8 hw h (by omega) hl.2⟩
theorem z3q {n:Int} {f:Wait→Wait} (hf:∀ w,inA w.Amount→(f w).Number=w.Number∧(f w).D=w.D∧(f w).V=w.V∧inA (f w).Amount∧(f w).Height=w.Height∧(f w).Due=w.Due):∀ {l:List Wait} {p:Int},zhq n p l→zhq n p (l.map f)
 | [],_,_=>trivial
 | w::l,p,h=>by
  obtain ⟨h1,h2,h3,h4,h5,h6,h7,h8,h9⟩:=h.1
  obtain ⟨e1,e2,e3,e4,e5,e6⟩:=hf w h7
  refine ⟨⟨by rw[e1];exact h1,by rw[e1];exact h2,by rw[e2];exact h3,by rw[e2];exact h4,by rw[e3];exact h5,by rw[e3];exact h6,e4,by rw[e5];exact h8,by rw[e6];exact h9⟩,?_⟩
  rw[e1]
  exact z3q hf h.2
theorem zoz {n:Int} (q:Wait→Bool):∀ {l:List Wait} {p:Int},zhq n p l→zhq n p (l.filter q)
 | [],_,_=>trivial
 | w::l,p,h=>by
  rw[List.filter_cons]
  split
  ·exact ⟨h.1,zoz q h.2⟩
  ·exact zad7 (zoz q h.2) (Int.le_refl _) (Int.le_of_lt h.1.1)
theorem za0n (l m:List Wait):zvf (l++m)=zvf l+zvf m:=by
 induction l with
 | nil=>simp[zvf]
 | cons a l ih=>simp only[List.cons_append,zvf,ih];omega
theorem zanj (q:Wait→Bool) (l:List Wait):zvf (l.filter q)+zvf (l.filter (fun w => !q w))=zvf l:=by
 induction l with
 | nil=>rfl
 | cons a l ih =>
  rw[List.filter_cons,List.filter_cons]
  cases q a
  ·simp only[Bool.not_false,if_true,zvf];rw[if_neg (by simp)];omega
  ·simp only[Bool.not_true,if_true,zvf];rw[if_neg (by simp)];omega
theorem zapg {b:Bank} {d n:Int} (h:(zti b d n).2=0):zif (zti b d n).1∧0≤n∧n≤400000∧(zti b d n).1.Bonded=b.Bonded+n∧(zti b d n).1.Waiting=b.Waiting∧(zti b d n).1.Burnt=b.Burnt:=by
 have k:=zat8 (b:=b) (d:=d) (n:=n)
 rcases k with ⟨k,_⟩ | ⟨_,g1,g2,_⟩
 ·exact absurd h k
 have hd:¬ (d < 0∨3 < d):=by
  intro hd
  unfold zti at h
  rw[if_pos hd] at h;cases h
 have e:zti b d n=zct b d 4 n:=by unfold zti;rw[if_neg hd]
 rw[e] at h g2 ⊢
 obtain ⟨m1,m2,m3,m4,m5⟩:=zai3 h
 have m6:=zak6 m1 d
 unfold okN at m6
 refine ⟨g2,m2,by omega,?_⟩
 rw[m5]
 obtain rfl | rfl | rfl | rfl:d=0∨d=1∨d=2∨d=3:=by omega
 all_goals simp[znl,bkA,plA,A7.get,A7.set]
theorem zauk {s:Stake} (hg:GoodS s) {b:Bank} {d v n k:Int} (hd:0≤d∧d < 4) (hv:0≤v∧v < 6) (hb:zif b) (hb1:b.Bonded=s.Bank.Bonded+n) (hb2:b.Waiting=s.Bank.Waiting) (hb3:b.Burnt=s.Bank.Burnt)
  (hn:0≤n∧n≤400000) (hk:1≤k) (hS:s.Validators.Shares.get v+k≤1125899906842624):GoodS (addS s b d v n k):=by
 obtain ⟨g1,g2,g3,g4,g5,g6,g7⟩:=hg
 have hg:GoodS s:=⟨g1,g2,g3,g4,g5,g6,g7⟩
 have htok:=z27 hg hv
 have o2:okN s.Bank.Bonded:=g1.2.2.2.2.1
 unfold okN at o2
 refine ⟨hb,g2,fun u hu=>?_,g4,?_,?_,?_⟩
 ·have hu':0≤(u:Int)∧(u:Int) < 6:=by omega
  by_cases he:(u:Int)=v
  ·obtain ⟨⟨q1,q2,q3,q4,q5⟩,q6,q7⟩:=hg.at hv
   have hle:=z8c hg hd hv
   have r0:=hg.shr (d:=0) (by omega) hv;have r1:=hg.shr (d:=1) (by omega) hv;have r2:=hg.shr (d:=2) (by omega) hv;have r3:=hg.shr (d:=3) (by omega) hv
   unfold zad3 shr at q7
   rw[he]
   have sh:∀ d':Int,0≤d'→d' < 4→A46.get (addS s b d v n k).Shares d' v=if d'=d then A46.get s.Shares d v+k else A46.get s.Shares d' v:=fun d' h0 h1=>by
    show A46.get (A46.set s.Shares d v (A46.get s.Shares d v+k)) d' v=_
    rw[z0i _ _ hd hv ⟨h0,h1⟩ hv]
    by_cases h:d'=d
    ·rw[if_pos ⟨h,rfl⟩,if_pos h]
    ·rw[if_neg (fun x=>h x.1),if_neg h]
   have eT:(addS s b d v n k).Validators.Tokens.get v=s.Validators.Tokens.get v+n:=zih _ _ hv
   have eS:(addS s b d v n k).Validators.Shares.get v=s.Validators.Shares.get v+k:=zih _ _ hv
   unfold inA at q1 q2
   refine ⟨⟨?_,?_,q3,?_,q5⟩,fun d' hd'=>?_,?_⟩
   ·rw[eT];unfold inA;omega
   ·rw[eS];unfold inA;omega
   ·rw[eT,eS];omega
   ·unfold shr
    rw[sh d' (by omega) (by omega)]
    split
    ·have:=hg.shr hd hv;unfold inA;omega
    ·exact q6 d' hd'
   ·unfold zad3 shr
    rw[eS,sh 0 (by omega) (by omega),sh 1 (by omega) (by omega),sh 2 (by omega) (by omega),sh 3 (by omega) (by omega)]
    obtain rfl | rfl | rfl | rfl:d=0∨d=1∨d=2∨d=3:=by omega
    all_goals
     simp
     omega
  ·refine z0j (zhr _ _ hv hu' he) (zhr _ _ hv hu' he) rfl rfl rfl (fun d' h0 h1=>?_) (g3 u hu)
   show A46.get (A46.set s.Shares d v (A46.get s.Shares d v+k)) d' u=_
   rw[z0i _ _ hd hv ⟨h0,h1⟩ hu',if_neg (fun x=>he x.2)]
 ·show sum6 (s.Validators.Tokens.set v (s.Validators.Tokens.get v+n))=b.Bonded
  rw[zabw _ _ hv,g5,hb1];omega
 ·show zvf s.Waits=b.Waiting
  rw[hb2];exact g6
 ·show sum6 s.Validators.Lost=b.Burnt
  rw[hb3];exact g7
theorem zank {s:Stake} {d v n:Int} (h:(zfo s d v n).2=0):GoodS s∧(0≤d∧d < 4)∧(0≤v∧v < 6)∧s.Validators.Dead.get v≠true∧(1≤n∧n≤400000)∧¬ (s.Validators.Shares.get v≠0∧s.Validators.Tokens.get v=0)∧(zc9 s v n).2=0 ∧
  s.Validators.Shares.get v+(zc9 s v n).1≤1125899906842624∧1≤(zc9 s v n).1∧(zti s.Bank d n).2=0∧zfo s d v n=(addS s (zti s.Bank d n).1 d v n (zc9 s v n).1,0):=by
 unfold zfo at h ⊢
 by_cases h0:zfr s d v≠0
 ·rw[if_pos h0] at h;exact absurd h h0
 ·rw[if_neg h0] at h ⊢
  obtain ⟨hg,hd,hv⟩:=zj0 (Decidable.not_not.1 h0)
  by_cases h1:s.Validators.Dead.get v=true
  ·rw[if_pos h1] at h;cases h
  ·rw[if_neg h1] at h ⊢
   by_cases h2:n < 1∨1125899906842624 < n
   ·rw[if_pos h2] at h;cases h
   ·rw[if_neg h2] at h ⊢
    by_cases h3:s.Validators.Shares.get v≠0∧s.Validators.Tokens.get v=0
    ·rw[if_pos h3] at h;cases h
    ·rw[if_neg h3] at h ⊢
     by_cases h4:(zc9 s v n).2≠0∨1125899906842624 < s.Validators.Shares.get v+(zc9 s v n).1
     ·rw[if_pos h4] at h;cases h
     ·rw[if_neg h4] at h ⊢
      by_cases h5:(zc9 s v n).1 < 1
      ·rw[if_pos h5] at h;cases h
      ·rw[if_neg h5] at h ⊢
       by_cases h6:(zti s.Bank d n).2≠0
       ·rw[if_pos h6] at h;exact absurd h h6
       ·rw[if_neg h6]
        have hb:=zapg (Decidable.not_not.1 h6)
        exact ⟨hg,hd,hv,h1,⟨by omega,hb.2.2.1⟩,h3,by omega,by omega,by omega,Decidable.not_not.1 h6,rfl⟩
theorem zajc {s:Stake} {d v n:Int} (h:(zfo s d v n).2=0):GoodS (zfo s d v n).1:=by
 obtain ⟨hg,hd,hv,_,hn,_,_,h1,h2,h3,h4⟩:=zank h
 obtain ⟨b1,b2,b3,b4,b5,b6⟩:=zapg h3
 rw[h4]
 exact zauk hg hd hv b1 b4 b5 b6 (by omega) h2 h1
theorem zaq6 {b:Bank} {n:Int} (h:(zct b 4 5 n).2=0):zif (zct b 4 5 n).1∧0≤n∧n≤b.Bonded∧(zct b 4 5 n).1.Bonded=b.Bonded - n∧(zct b 4 5 n).1.Waiting=b.Waiting+n∧(zct b 4 5 n).1.Burnt=b.Burnt:=by
 obtain ⟨m1,m2,m3,m4,m5⟩:=zai3 h
 refine ⟨by rw[m5];exact (zvb (.inr (.inl ⟨rfl,rfl⟩)) m1 m2 m4).1,m2,m4,?_⟩
 rw[m5]
 simp[znl,bkA,plA,A7.get,A7.set]
theorem zajd {s:Stake} {d v k:Int} {w:Wait} (h:(zb0 s d v k w).2=0):GoodS s∧(0≤d∧d < 4)∧(0≤v∧v < 6)∧(1≤k∧k≤A46.get s.Shares d v)∧(0≤w.Height∧0≤w.Due)∧s.Waits.length < 60∧s.Next < 1125899906842624∧1≤zig s v k ∧
  (zct s.Bank 4 5 (zig s v k)).2=0∧zb0 s d v k w=(subS s (zct s.Bank 4 5 (zig s v k)).1 d v (zig s v k) k w,0):=by
 unfold zb0 at h ⊢
 by_cases h0:zfr s d v≠0
 ·rw[if_pos h0] at h;exact absurd h h0
 ·rw[if_neg h0] at h ⊢
  obtain ⟨hg,hd,hv⟩:=zj0 (Decidable.not_not.1 h0)
  by_cases h1:k < 1∨1125899906842624 < k∨w.Height < 0∨w.Due < 0
  ·rw[if_pos h1] at h;cases h
  ·rw[if_neg h1] at h ⊢
   by_cases h2:A46.get s.Shares d v < k
   ·rw[if_pos h2] at h;cases h
   ·rw[if_neg h2] at h ⊢
    by_cases h3:60≤s.Waits.length∨1125899906842624≤s.Next
    ·rw[if_pos h3] at h;cases h
    ·rw[if_neg h3] at h ⊢
     by_cases h4:zig s v k < 1
     ·rw[if_pos h4] at h;cases h
     ·rw[if_neg h4] at h ⊢
      by_cases h6:(zct s.Bank 4 5 (zig s v k)).2≠0
      ·rw[if_pos h6] at h;exact absurd h h6
      ·rw[if_neg h6]
       exact ⟨hg,hd,hv,by omega,by omega,by omega,by omega,by omega,Decidable.not_not.1 h6,rfl⟩
theorem za0o {s:Stake} (hg:GoodS s) {v k:Int} (hv:0≤v∧v < 6) (h0:0≤k) (h1:k≤s.Validators.Shares.get v):zig s v k≤s.Validators.Tokens.get v:=by
 obtain ⟨⟨q1,q2,q3,q4,q5⟩,q6,q7⟩:=hg.at hv
 unfold zig zko
 by_cases h:k < 0∨s.Validators.Tokens.get v < 0∨s.Validators.Shares.get v < 1
 ·rw[if_pos h];exact q1.1
 ·rw[if_neg h]
  have h2:k*s.Validators.Tokens.get v / s.Validators.Shares.get v≤s.Validators.Tokens.get v:=by
   have h3:k*s.Validators.Tokens.get v≤s.Validators.Shares.get v*s.Validators.Tokens.get v:=Int.mul_le_mul_of_nonneg_right h1 q1.1
   have h4:=Int.ediv_le_ediv (c:=s.Validators.Shares.get v) (by omega) h3
   rwa [Int.mul_ediv_cancel_left _ (by omega)] at h4
  split
  ·exact q1.1
  ·exact h2
theorem zaq7 {s:Stake} (hg:GoodS s) {v k:Int} (hv:0≤v∧v < 6) (h0:1≤k) (h:k=s.Validators.Shares.get v):zig s v k=s.Validators.Tokens.get v:=zak9 h0 (hg.at hv).1.1 h
theorem zad9 {s:Stake} {d v k:Int} {w:Wait} (h:(zb0 s d v k w).2=0):GoodS (zb0 s d v k w).1:=by
 obtain ⟨hg,hd,hv,hk,hw,h60,hN,hn,hm,e⟩:=zajd h
 rw[e]
 obtain ⟨b1,b2,b3,b4,b5,b6⟩:=zaq6 hm
 have hle:=z8c hg hd hv
 have hwl:=za0o hg hv (by omega) (Int.le_trans hk.2 hle)
 have hall:k=s.Validators.Shares.get v→zig s v k=s.Validators.Tokens.get v:=fun h=>zaq7 hg hv hk.1 h
 obtain ⟨b,hb⟩:∃ b,b=(zct s.Bank 4 5 (zig s v k)).1:=⟨_,rfl⟩
 obtain ⟨n,hnn⟩:∃ n,n=zig s v k:=⟨_,rfl⟩
 rw[← hb] at b1 b4 b5 b6 ⊢
 rw[← hnn] at b4 b5 ⊢
 rw[← hnn] at hn b2 b3 hwl hall
 obtain ⟨g1,g2,g3,g4,g5,g6,g7⟩:=id hg
 have o2:okN s.Bank.Bonded:=g1.2.2.2.2.1
 unfold okN at o2
 refine ⟨b1,⟨?_,?_,?_⟩,fun u hu=>?_,?_,?_,?_,?_⟩
 ·show 1≤s.Next+1;omega
 ·show s.Next+1≤_;omega
 ·show (s.Waits++[outW s d v n w]).length≤60
  rw[yy6];simp;omega
 ·have hu':0≤(u:Int)∧(u:Int) < 6:=by omega
  by_cases he:(u:Int)=v
  ·obtain ⟨⟨q1,q2,q3,q4,q5⟩,q6,q7⟩:=hg.at hv
   have r0:=hg.shr (d:=0) (by omega) hv;have r1:=hg.shr (d:=1) (by omega) hv;have r2:=hg.shr (d:=2) (by omega) hv;have r3:=hg.shr (d:=3) (by omega) hv
   unfold zad3 shr at q7
   rw[he]
   have sh:∀ d':Int,0≤d'→d' < 4→A46.get (subS s b d v n k w).Shares d' v=if d'=d then A46.get s.Shares d v - k else A46.get s.Shares d' v:=fun d' h0 h1=>by
    show A46.get (A46.set s.Shares d v (A46.get s.Shares d v - k)) d' v=_
    rw[z0i _ _ hd hv ⟨h0,h1⟩ hv]
    by_cases h:d'=d
    ·rw[if_pos ⟨h,rfl⟩,if_pos h]
    ·rw[if_neg (fun x=>h x.1),if_neg h]
   have eT:(subS s b d v n k w).Validators.Tokens.get v=s.Validators.Tokens.get v - n:=zih _ _ hv
   have eS:(subS s b d v n k w).Validators.Shares.get v=s.Validators.Shares.get v - k:=zih _ _ hv
   unfold inA at q1 q2
   refine ⟨⟨?_,?_,q3,?_,q5⟩,fun d' hd'=>?_,?_⟩
   ·rw[eT];unfold inA;omega
   ·rw[eS];unfold inA;omega
   ·rw[eT,eS];omega
   ·unfold shr
    rw[sh d' (by omega) (by omega)]
    split
    ·have:=hg.shr hd hv;unfold inA;omega
    ·exact q6 d' hd'
   ·unfold zad3 shr
    rw[eS,sh 0 (by omega) (by omega),sh 1 (by omega) (by omega),sh 2 (by omega) (by omega),sh 3 (by omega) (by omega)]
    obtain rfl | rfl | rfl | rfl:d=0∨d=1∨d=2∨d=3:=by omega
    all_goals
     simp
     omega
  ·refine z0j (zhr _ _ hv hu' he) (zhr _ _ hv hu' he) rfl rfl rfl (fun d' h0 h1=>?_) (g3 u hu)
   show A46.get (A46.set s.Shares d v (A46.get s.Shares d v - k)) d' u=_
   rw[z0i _ _ hd hv ⟨h0,h1⟩ hu',if_neg (fun x=>he x.2)]
 ·exact zad8 (w:=outW s d v n w) rfl ⟨hd.1,hd.2,hv.1,hv.2,⟨by show 0≤n;omega,by show n≤1125899906842624;omega⟩,hw.1,hw.2⟩ (show (0:Int) < s.Next by have:=g2.1;omega) g4
 ·show sum6 (s.Validators.Tokens.set v (s.Validators.Tokens.get v - n))=b.Bonded
  rw[zabw _ _ hv,g5,b4];omega
 ·show zvf (s.Waits++[outW s d v n w])=b.Waiting
  rw[za0n,g6,b5]
  show s.Bank.Waiting+(n+0)=_
  omega
 ·show sum6 s.Validators.Lost=b.Burnt
  rw[b6];exact g7
theorem zaje {f:Wait→Wait} (hf:∀ w,(f w).Amount=w.Amount):∀ l:List Wait,zvf (l.map f)=zvf l
 | []=>rfl
 | w::l=>by simp only[List.map_cons,zvf,hf,zaje hf l]
theorem zaau {s:Stake} {c h:Int} (hg:GoodS s):GoodS (zmn s c h):=by
 obtain ⟨g1,g2,g3,g4,g5,g6,g7⟩:=hg
 refine ⟨g1,⟨g2.1,g2.2.1,?_⟩,g3,?_,g5,?_,g7⟩
 ·show (s.Waits.map (relW c h)).length≤60
  rw[List.length_map];exact g2.2.2
 ·exact z3q (f:=relW c h) (fun w hw=>⟨rfl,rfl,rfl,hw,rfl,rfl⟩) g4
 ·show zvf (s.Waits.map (relW c h))=_
  rw[zaje (f:=relW c h) (fun _=>rfl)];exact g6
theorem zaph {s:Stake} {v what:Int} (h:(zda s v what).2=0):GoodS s∧(0≤v∧v < 6)∧¬ (what=0∧s.Validators.Jailed.get v=true)∧¬ (0 < what∧s.Validators.Dead.get v=true)∧¬ (what=1∧s.Validators.Jailed.get v=false) ∧
  zda s v what=(z9u s v (what != 1) (what==2),0):=by
 unfold zda at h ⊢
 by_cases h0:zfr s 0 v≠0
 ·rw[if_pos h0] at h;exact absurd h h0
 ·rw[if_neg h0] at h ⊢
  obtain ⟨hg,hd,hv⟩:=zj0 (Decidable.not_not.1 h0)
  by_cases h1:what=0∧s.Validators.Jailed.get v=true
  ·rw[if_pos h1] at h;cases h
  ·rw[if_neg h1] at h ⊢
   by_cases h2:0 < what∧s.Validators.Dead.get v=true
   ·rw[if_pos h2] at h;cases h
   ·rw[if_neg h2] at h ⊢
    by_cases h3:what=1∧s.Validators.Jailed.get v=false
    ·rw[if_pos h3] at h;cases h
    ·rw[if_neg h3]
     exact ⟨hg,hv,h1,h2,h3,rfl⟩
theorem zaul {s:Stake} {v what:Int} (h:(zda s v what).2≠0):(zda s v what).1=s:=by
 unfold zda at h ⊢
 repeat' split
 all_goals first | rfl | skip
 rename_i h0 h1 h2 h3
 rw[if_neg h0,if_neg h1,if_neg h2,if_neg h3] at h
 exact absurd rfl h
theorem zaq8 {s:Stake} {v what:Int} (hw:what=0∨what=1∨what=2) (h:(zda s v what).2=0):GoodS (zda s v what).1:=by
 obtain ⟨hg,hv,h1,h2,h3,e⟩:=zaph h
 rw[e]
 obtain ⟨g1,g2,g3,g4,g5,g6,g7⟩:=id hg
 refine ⟨g1,g2,fun u hu=>?_,g4,g5,g6,g7⟩
 have hu':0≤(u:Int)∧(u:Int) < 6:=by omega
 by_cases he:(u:Int)=v
 ·obtain ⟨⟨q1,q2,q3,q4,q5⟩,q6,q7⟩:=hg.at hv
  rw[he]
  have eJ:(z9u s v (what != 1) (what==2)).Validators.Jailed.get v=(what != 1):=zih _ _ hv
  have eD:(z9u s v (what != 1) (what==2)).Validators.Dead.get v=(what==2):=zih _ _ hv
  refine ⟨⟨q1,q2,q3,q4,?_⟩,q6,q7⟩
  rw[eJ,eD]
  rcases hw with rfl | rfl | rfl<;>simp
 ·exact z0j (s:=s) rfl rfl rfl (zhr _ _ hv hu' he) (zhr _ _ hv hu' he) (fun _ _ _=>rfl) (g3 u hu)
theorem zaea (time:Int):∀ (l:List Wait) (b:Bank) (L:List Wait) (P:List Int),l.foldl (payF time) (b,L,P)=((l.filter (dueW time)).foldl (fun b w=>(payB b w.D w.Amount).1) b,L++l.filter (fun w => !dueW time w),P++(l.filter (dueW time)).map (·.Number))
 | [],b,L,P=>by simp
 | w::l,b,L,P=>by
  rw[List.foldl_cons,List.filter_cons,List.filter_cons]
  by_cases h:dueW time w=true
  ·have e:payF time (b,L,P) w=((payB b w.D w.Amount).1,L,P++[w.Number]):=by unfold payF;rw[if_pos h]
   rw[e,zaea time l,if_pos h,if_neg (by simp[h]),List.foldl_cons,List.map_cons,List.append_assoc]
   rfl
  ·have e:payF time (b,L,P) w=(b,L++[w],P):=by unfold payF;rw[if_neg h]
   rw[e,zaea time l,if_neg h,if_pos (by simpa using h),List.append_assoc]
   rfl
def zanl (s:Stake) (time:Int):Bank:=(s.Waits.filter (dueW time)).foldl (fun b w=>(payB b w.D w.Amount).1) s.Bank
theorem zaum {s:Stake} (hg:GoodS s) (time:Int):payS s time=({ s with Bank:=zanl s time,Waits:=s.Waits.filter (fun w => !dueW time w) },(s.Waits.filter (dueW time)).map (·.Number),0):=by
 unfold payS zanl
 rw[if_neg (by simpa using hg),zaea]
 simp only[List.nil_append]
theorem zalg:∀ {l:List Wait} {b:Bank} {n p:Int},zhq n p l→zif b→zvf l≤b.Waiting →
  zif (l.foldl (fun b w=>(payB b w.D w.Amount).1) b)∧(l.foldl (fun b w=>(payB b w.D w.Amount).1) b).Waiting=b.Waiting - zvf l∧(l.foldl (fun b w=>(payB b w.D w.Amount).1) b).Bonded=b.Bonded∧(l.foldl (fun b w=>(payB b w.D w.Amount).1) b).Burnt=b.Burnt
 | [],b,n,p,_,hb,_=>⟨hb,by show b.Waiting=b.Waiting - 0;omega,rfl,rfl⟩
 | w::l,b,n,p,hw,hb,hs=>by
  obtain ⟨_,_,d0,d1,_,_,ha,_,_⟩:=hw.1
  have hn:=zyq hw.2
  simp only[zvf] at hs
  obtain ⟨_,p2,p3,p4,p5⟩:=zauc hb ⟨d0,d1⟩ ha (by omega)
  obtain ⟨k1,k2,k3,k4⟩:=zalg hw.2 p2 (by rw[p3];omega)
  rw[List.foldl_cons]
  refine ⟨k1,?_,k3.trans p4,k4.trans p5⟩
  rw[k2,p3]
  simp only[zvf];omega
theorem za0p {s:Stake} (hg:GoodS s) (time:Int):zif (zanl s time)∧(zanl s time).Waiting=zvf (s.Waits.filter (fun w => !dueW time w))∧(zanl s time).Bonded=s.Bank.Bonded∧(zanl s time).Burnt=s.Bank.Burnt:=by
 have h1:=zanj (dueW time) s.Waits
 have h2:=zyq (zoz (fun w => !dueW time w) hg.2.2.2.1)
 have h3:=hg.2.2.2.2.2.1
 obtain ⟨k1,k2,k3,k4⟩:=zalg (zoz (dueW time) hg.2.2.2.1) hg.1 (by omega)
 exact ⟨k1,by unfold zanl;rw[k2];omega,k3,k4⟩
theorem zajf {s:Stake} (hg:GoodS s) (time:Int):GoodS (payS s time).1:=by
 rw[zaum hg]
 obtain ⟨k1,k2,k3,k4⟩:=za0p hg time
 obtain ⟨g1,g2,g3,g4,g5,g6,g7⟩:=hg
 refine ⟨k1,⟨g2.1,g2.2.1,?_⟩,g3,zoz _ g4,?_,?_,?_⟩
 ·exact Nat.le_trans (List.length_filter_le _ _) g2.2.2
 ·rw[k3];exact g5
 ·exact k2.symm
 ·rw[k4];exact g7
theorem zaun (v h f:Int):∀ (l:List Wait) (t:Int),l.foldl (fun t w=>t+slN v h f w) t=t+(zvf l - zvf (l.map (slW v h f)))
 | [],t=>by simp[zvf]
 | w::l,t=>by
  rw[List.foldl_cons,zaun v h f l,List.map_cons]
  simp only[zvf]
  have:(slW v h f w).Amount=w.Amount - slN v h f w:=by
   unfold slW slN
   split
   ·rfl
   ·omega
  rw[this];omega
theorem zapi {s:Stake} {v h f:Int} (hs:(zkp s v h f).2.2=0):GoodS s∧(0≤v∧v < 6)∧(0≤f∧f≤1000)∧0≤zhl s v f∧zhl s v f≤s.Validators.Tokens.get v∧0≤sumN v h f s.Waits∧sumN v h f s.Waits≤s.Bank.Waiting ∧
  zkp s v h f=(⟨⟨s.Bank.Free,s.Bank.Bonded - zhl s v f,s.Bank.Waiting - sumN v h f s.Waits,s.Bank.Burnt+zhl s v f+sumN v h f s.Waits⟩,{ s.Validators with Tokens:=s.Validators.Tokens.set v (s.Validators.Tokens.get v - zhl s v f),Lost:=s.Validators.Lost.set v (s.Validators.Lost.get v+(zhl s v f+sumN v h f s.Waits)) },s.Shares,s.Waits.map (slW v h f),s.Next⟩,zhl s v f+sumN v h f s.Waits,0) ∧
  zif ⟨s.Bank.Free,s.Bank.Bonded - zhl s v f,s.Bank.Waiting - sumN v h f s.Waits,s.Bank.Burnt+zhl s v f+sumN v h f s.Waits⟩:=by
 unfold zkp at hs ⊢
 by_cases h0:zfr s 0 v≠0
 ·rw[if_pos h0] at hs;exact absurd hs h0
 ·rw[if_neg h0] at hs ⊢
  obtain ⟨hg,hd,hv⟩:=zj0 (Decidable.not_not.1 h0)
  by_cases hf:f < 0∨1000 < f
  ·rw[if_pos hf] at hs;cases hs
  ·rw[if_neg hf]
   have hf':0≤f∧f≤1000:=by omega
   obtain ⟨_,b2,b3⟩:=zqa (hg.at hv).1.1 hf'
   obtain ⟨s1,s2⟩:=zang hg (v:=v) (h:=h) hf'
   obtain ⟨k1,k2⟩:=zapc hg.1 b2 (Int.le_trans b3 (z27 hg hv).1) s1 s2
   refine ⟨hg,hv,hf',b2,b3,s1,s2,?_,?_⟩
   ·unfold zhl;rw[k1]
   ·rw[k1] at k2;exact k2
theorem zauo {s:Stake} {v h f:Int} (hs:(zkp s v h f).2.2≠0):(zkp s v h f).1=s∧(zkp s v h f).2.1=0:=by
 unfold zkp at hs ⊢
 split
 ·exact ⟨rfl,rfl⟩
 ·split
  ·exact ⟨rfl,rfl⟩
  ·rename_i h0 h1
   rw[if_neg h0,if_neg h1] at hs
   exact absurd rfl hs
theorem zaq9 {s:Stake} {v h f:Int} (hs:(zkp s v h f).2.2=0):GoodS (zkp s v h f).1:=by
 obtain ⟨hg,hv,hf,b1,b2,s1,s2,e,hb⟩:=zapi hs
 rw[e]
 obtain ⟨x,hx⟩:∃ x,x=zhl s v f:=⟨_,rfl⟩
 obtain ⟨y,hy⟩:∃ y,y=sumN v h f s.Waits:=⟨_,rfl⟩
 have hsum:y=zvf s.Waits - zvf (s.Waits.map (slW v h f)):=by
  rw[hy];unfold sumN;rw[zaun];omega
 have hall:zhl s v f≤s.Validators.Tokens.get v:=b2
 rw[← hx] at b1 b2 hb ⊢
 rw[← hy] at s1 s2 hb ⊢
 obtain ⟨g1,g2,g3,g4,g5,g6,g7⟩:=id hg
 have htok:=z27 hg hv
 have o2:okN (s.Bank.Burnt+x+y):=hb.2.2.2.2.2.2.1
 unfold okN at o2
 refine ⟨hb,⟨g2.1,g2.2.1,?_⟩,fun u hu=>?_,?_,?_,?_,?_⟩
 ·show (s.Waits.map (slW v h f)).length≤60
  rw[List.length_map];exact g2.2.2
 ·have hu':0≤(u:Int)∧(u:Int) < 6:=by omega
  by_cases he:(u:Int)=v
  ·obtain ⟨⟨q1,q2,q3,q4,q5⟩,q6,q7⟩:=hg.at hv
   rw[he]
   unfold inA at q1 q3
   refine ⟨⟨?_,q2,?_,?_,q5⟩,q6,q7⟩
   ·show inA ((s.Validators.Tokens.set v (s.Validators.Tokens.get v - x)).get v)
    rw[zih _ _ hv];unfold inA;omega
   ·show inA ((s.Validators.Lost.set v (s.Validators.Lost.get v+(x+y))).get v)
    rw[zih _ _ hv];unfold inA;omega
   ·show ¬ (s.Validators.Shares.get v=0∧0 < (s.Validators.Tokens.set v (s.Validators.Tokens.get v - x)).get v)
    rw[zih _ _ hv];omega
  ·exact z0j (zhr _ _ hv hu' he) rfl (zhr _ _ hv hu' he) rfl rfl (fun _ _ _=>rfl) (g3 u hu)
 ·refine z3q (fun w hw=>?_) g4
  have hp:=zqa hw hf
  unfold slW
  split
  ·exact ⟨rfl,rfl,rfl,⟨by show 0≤w.Amount - _;omega,by show w.Amount - _≤_;unfold inA at hw;omega⟩,rfl,rfl⟩
  ·exact ⟨rfl,rfl,rfl,hw,rfl,rfl⟩
 ·show sum6 (s.Validators.Tokens.set v (s.Validators.Tokens.get v - x))=s.Bank.Bonded - x
  rw[zabw _ _ hv,g5];omega
 ·show zvf (s.Waits.map (slW v h f))=s.Bank.Waiting - y
  omega
 ·show sum6 (s.Validators.Lost.set v (s.Validators.Lost.get v+(x+y)))=s.Bank.Burnt+x+y
  rw[zabw _ _ hv,g7];omega
theorem za0q {s:Stake} (hg:GoodS s) {p:Power} (h:p∈setS s):(0≤p.V∧p.V < 6)∧s.Validators.Jailed.get p.V=false∧p.N=s.Validators.Tokens.get p.V / 100∧1≤p.N:=by
 obtain ⟨v,hv,h1,rfl⟩:=mem_setOf.1 h
 have e:topF (nvF s) v=nvF s v:=by
  unfold topF at h1 ⊢
  split
  ·rfl
  ·rename_i hn;rw[if_neg hn] at h1;omega
 rw[e] at h1
 have hj:s.Validators.Jailed.get v=false:=by
  unfold nvF at h1
  cases hj:s.Validators.Jailed.get v
  ·rfl
  ·rw[hj,if_pos rfl] at h1;omega
 refine ⟨by show 0≤(v:Int)∧(v:Int) < 6;omega,hj,?_,by show 1≤topF (nvF s) v;rw[e];omega⟩
 show topF (nvF s) v=_
 rw[e]
 unfold nvF
 rw[hj];rfl
theorem zag0 {s:Stake} (hg:GoodS s) {d v:Int} (hd:0≤d∧d < 4) (hv:0≤v∧v < 6):zfr s d v=0:=by
 unfold zfr
 rw[if_neg (by simpa using hg),if_neg (by omega)]
def Kept (s t:Stake) (e:Int):Prop :=
 GoodS t∧(e≠0→t=s)∧s.Bank.Burnt≤t.Bank.Burnt∧∀ v:Int,0≤v→v < 6→(s.Validators.Dead.get v=true→t.Validators.Dead.get v=true)∧s.Validators.Lost.get v≤t.Validators.Lost.get v
theorem Kept.same {s:Stake} (hg:GoodS s) (e:Int):Kept s s e:=⟨hg,fun _=>rfl,Int.le_refl _,fun _ _ _=>⟨id,Int.le_refl _⟩⟩
theorem zara {s:Stake} (hg:GoodS s) (v:Int) {what:Int} (hw:what=0∨what=1∨what=2):Kept s (zda s v what).1 (zda s v what).2:=by
 by_cases h:(zda s v what).2=0
 ·have hga:=zaq8 hw h
  obtain ⟨_,hv,h1,h2,h3,e⟩:=zaph h
  rw[e] at hga ⊢
  refine ⟨hga,fun h=>absurd rfl h,Int.le_refl _,fun u h0 h6=>⟨fun hd=>?_,Int.le_refl _⟩⟩
  show (s.Validators.Dead.set v (what==2)).get u=true
  rw[zyr _ _ hv ⟨h0,h6⟩]
  split
  ·rename_i huv
   rw[huv] at hd
   rcases hw with rfl | rfl | rfl
   ·have:=(hg.at hv).1.2.2.2.2
    cases hj:s.Validators.Jailed.get v
    ·exact absurd ⟨hd,hj⟩ this
    ·exact absurd ⟨rfl,hj⟩ h1
   ·exact absurd ⟨by omega,hd⟩ h2
   ·rfl
  ·exact hd
 ·rw[zaul h];exact .same hg _
theorem zarb {s:Stake} (hg:GoodS s) (v h f:Int):Kept s (zkp s v h f).1 (zkp s v h f).2.2:=by
 by_cases hs:(zkp s v h f).2.2=0
 ·have hga:=zaq9 hs
  obtain ⟨_,hv,hf,b1,b2,s1,s2,e,hb⟩:=zapi hs
  rw[e] at hga ⊢
  refine ⟨hga,fun h=>absurd rfl h,by show _≤s.Bank.Burnt+zhl s v f+sumN v h f s.Waits;omega,fun u h0 h6=>⟨id,?_⟩⟩
  show _≤(s.Validators.Lost.set v (s.Validators.Lost.get v+(zhl s v f+sumN v h f s.Waits))).get u
  rw[zyr _ _ hv ⟨h0,h6⟩]
  split
  ·rename_i huv;rw[huv];omega
  ·exact Int.le_refl _
 ·rw[(zauo hs).1];exact .same hg _
def znm (r:Ripe):Bool:=decide (1≤r.Id)&&decide (r.Id≤1099511627776)&&decide (0≤r.Due)
def zlg (p:Packet):Bool:=(p.Kind==1)&&(zgt p==0)
def zajg (c:zb):Prop:=(c.On&&c.Gone)=false∧0≤c.Height∧c.Height < 1099511627776∧0≤c.Time∧c.Time≤1099511627776∧0≤c.Id∧c.Id≤1099511627776
instance (c:zb):Decidable (zajg c):=inferInstanceAs (Decidable (_∧_))
def zkq (c:zb):Bool:=decide (zajg c)&&decide (zeg c.Out)&&zv 1 (-1) c.Set&&c.Ripes.all znm&&c.Pending.all zlg
structure FitC (R:Nat) (c:zb):Prop where
 set:c.Set.length*16≤R
 pend:c.Pending.length*80≤R
 ripes:c.Ripes.length*16≤R
 said:c.Out.Said.length*16≤R
 due:c.Out.Due.length*8≤R
 ps:∀ p,p∈c.Pending→p.Set.length*16≤R∧p.Done.length*8≤R
theorem FitC.mono {R S:Nat} {c:zb} (h:FitC R c) (hr:R≤S):FitC S c :=
 ⟨Nat.le_trans h.set hr,Nat.le_trans h.pend hr,Nat.le_trans h.ripes hr,Nat.le_trans h.said hr,Nat.le_trans h.due hr,fun p hp=>⟨Nat.le_trans (h.ps p hp).1 hr,Nat.le_trans (h.ps p hp).2 hr⟩⟩
theorem zarc {l:List Power} (h:l.length*16≤140737488355328):zgj l=some l:=by
 rw[zgj,zgy]
 refine Tr.run_split (fun h0=>?_) (fun _=>?_) (.inr trivial)
 ·rw[Tr.rl,List.length_eq_zero_iff.1 h0]
 ·rw[Tr.rg (by simp only[zo,List.length_nil];omega),Tr.rl]
theorem zard {l:List Packet} (h:l.length*80≤140737488355328):zby l=some l:=by
 rw[zby,zgk]
 refine Tr.run_split (fun h0=>?_) (fun _=>?_) (.inr trivial)
 ·rw[Tr.rl,List.length_eq_zero_iff.1 h0]
 ·rw[Tr.rg (by simp only[zan,List.length_nil];omega),Tr.rl]
theorem zare {l:List Ripe} (h:l.length*16≤140737488355328):zg1 l=some l:=by
 rw[zg1,zhw]
 refine Tr.run_split (fun h0=>?_) (fun _=>?_) (.inr trivial)
 ·rw[Tr.rl,List.length_eq_zero_iff.1 h0]
 ·rw[Tr.rg (by simp only[zdm,List.length_nil];omega),Tr.rl]
theorem za0r {l:List Packet} (hl:l.length≤9223372036854775807) (hp:∀ p,p∈l→p.Set.length*16≤140737488351232∧p.Done.length*8≤140737488351232) :
  zc1 l=some (!l.all zlg):=by
 obtain ⟨r,h1,h2⟩:=zgg (F:=fun s:(List Packet)×Int×Int=>(zax s.1 s.2.1 s.2.2).run) l.length
  (fun i (_:Unit)=>(l,(l.length:Int),(i:Int))) (fun i _=>True) (fun i _ r=>match r with | .inl k=>0≤k∧(l.drop i).all zlg=false | .inr _=>(l.drop i).all zlg=true) (by
   intro t _
   refine ⟨.inr (),?_,?_⟩
   ·simp only[zax];rw[Tr.rf (by simp),Tr.rl]
   ·rw[List.drop_length];rfl) (by
   intro i t hi _
   have hs:=z6 (l:=l) (k:=i) hi default
   have hm:=zbk (l:=l) (k:=i) hi default
   obtain ⟨p1,p2⟩:=hp _ hm
   simp only[zax,yy4]
   rw[Tr.rt (by simpa using hi),Tr.rg ⟨by omega,by rw[zan];omega⟩,Tr.rb (v := !zlg (l.getD i default)) (by
    rw[zv3,zpp,Tr.rb (z77 p1 p2),Tr.rl]
    unfold zlg
    congr 1
    rw[Bool.not_and,Bool.or_comm];rfl),hs]
   simp only[List.all_cons]
   obtain ⟨b,hb⟩:∃ b,b=zlg (l.getD i default):=⟨_,rfl⟩
   rw[← hb]
   cases b with
   | true =>
    refine .inl ⟨(),?_,trivial,?_⟩
    ·rw[Tr.rf (show (!true)=false from rfl),Tr.rl,zl (by omega)]
    ·intro r hr
     cases r with
     | inl x=>exact ⟨hr.1,by rw[hr.2];rfl⟩
     | inr x=>rw[Bool.true_and];exact hr
   | false =>
    refine .inr ⟨.inl i,?_,by omega,by rfl⟩
    rw[Tr.rt (show (!false)=true from rfl),Tr.rl]) 0 () (by omega) trivial
 have h1:zf6 l l.length 0=some r:=h1
 rw[zc1,zdn]
 cases r with
 | inl k =>
  simp only[List.drop_zero] at h2
  rw[Tr.rb (v:=k) (by rw[zd4,zcf,Tr.ri h1,Tr.rl]),Tr.rl,h2.2]
  simp[h2.1]
 | inr k =>
  simp only[List.drop_zero] at h2
  rw[Tr.rb (v := -1) (by rw[zd4,zcf,Tr.rj h1,Tr.rl]),Tr.rl,h2]
  rfl
theorem za0s {c:zb} (hl:c.Set.length≤9223372036854775807) :
  ∃ r,zuc c.Set c.Set.length 0 c=some r∧(match r with | .inl b=>b=false∧zv 1 (-1) c.Set=false | .inr x=>x=c∧zv 1 (-1) c.Set=true):=by
 have:=zjt (F:=fun s:(List Power)×Int×Int×zb=>(zjv s.1 s.2.1 s.2.2.1 s.2.2.2).run)
  (fun s=>s.1=c.Set∧s.2.1=c.Set.length∧0≤s.2.2.1∧s.2.2.1≤c.Set.length∧s.2.2.2=c ∧ -1≤zj1 c.Set s.2.2.1∧(0 < s.2.2.1→0≤zj1 c.Set s.2.2.1)) (fun s=>c.Set.length - s.2.2.1.toNat)
  (fun s r=>match r with | .inl b=>b=false∧zv 1 (zj1 c.Set s.2.2.1) (c.Set.drop s.2.2.1.toNat)=false | .inr x=>x=c∧zv 1 (zj1 c.Set s.2.2.1) (c.Set.drop s.2.2.1.toNat)=true) ?_ (c.Set,(c.Set.length:Int),0,c) ⟨rfl,rfl,by simp,by simp,rfl,by simp[zj1],by simp⟩
 ·exact this
 ·rintro ⟨x0,x1,x2,x3⟩ ⟨h1,h2,h3,h4,h5,h6,h7⟩
  simp only at h1 h2 h3 h4 h5 h6 h7
  subst h5
  rw[h1,h2] at *
  simp only[zjv]
  by_cases hc:x2 < x3.Set.length
  ·have hs:=z6 (l:=x3.Set) (k:=x2.toNat) (by omega) default
   rw[Tr.rt (by simpa using hc),Tr.rg ⟨h3,hc⟩,Tr.rg (by
    intro h _
    simp only[decide_eq_true_eq] at h
    rw[zg (x:=x2 - 1) (by omega) (by omega)]
    exact ⟨⟨by omega,by simp only[Sl.len];omega⟩,trivial⟩)]
   rw[hs]
   have hp:(decide (x2 > 0)&&decide ((x3.Set.getD (i64.wrap (x2 - 1)).toNat default).V≥(x3.Set.getD x2.toNat default).V))=(decide (x2 > 0)&&decide (zj1 x3.Set x2≥(x3.Set.getD x2.toNat default).V)):=by
    by_cases h0:x2 > 0
    ·rw[zg (x:=x2 - 1) (by omega) (by omega)]
     unfold zj1
     rw[if_neg (by omega)]
    ·simp[h0]
   rw[hp]
   generalize hq:x3.Set.getD x2.toNat default=q at *
   by_cases hd:zj1 x3.Set x2 < q.V∧q.V≤5∧1≤q.N∧q.N≤1125899906842624
   ·obtain ⟨d1,d2,d3,d4⟩:=hd
    have hw:i64.wrap (x2+1)=x2+1:=zg (by omega) (by omega)
    have hpv:zj1 x3.Set (x2+1)=q.V:=by unfold zj1;rw[if_neg (by omega),show x2+1 - 1=x2 by omega,hq]
    refine .inl ⟨_,by rw[Tr.rf (by simp;omega),Tr.rl,hw],⟨rfl,rfl,?_,?_,rfl,?_,?_⟩,?_,?_⟩
    ·simp only[];omega
    ·simp only[];omega
    ·simp only[];rw[hpv];omega
    ·simp only[];rw[hpv];intro _;omega
    ·simp only[];omega
    ·simp only[]
     rw[hpv,show (x2+1).toNat=x2.toNat+1 by omega]
     intro r hr
     rw[zv,decide_eq_true d1,decide_eq_true d2,decide_eq_true d3,decide_eq_true d4]
     simpa using hr
   ·refine .inr ⟨_,by rw[Tr.rt (by
     by_cases h0:x2 > 0
     ·have:=h7 h0
      simp[h0];omega
     ·have:zj1 x3.Set x2 = -1:=by unfold zj1;rw[if_pos (by omega)]
      simp[h0];omega),Tr.rl],?_⟩
    refine ⟨rfl,?_⟩
    rw[zv]
    simp only[Bool.and_eq_false_iff,yy8]
    omega
  ·refine .inr ⟨_,by rw[Tr.rf (by simpa using hc),Tr.rl],?_⟩
   refine ⟨rfl,?_⟩
   rw[List.drop_eq_nil_of_le (by omega)];rfl
theorem z8g (r:Ripe):(((decide (r.Id < 1))||(decide (r.Id > 1099511627776)))||(decide (r.Due < 0))) = !znm r:=by
 unfold znm
 rw[Bool.eq_iff_iff]
 simp only[Bool.or_eq_true,Bool.not_eq_true',Bool.and_eq_false_iff,decide_eq_true_eq,yy8]
 omega
theorem zarf {l:List Ripe} {c:zb} (hl:l.length≤9223372036854775807) :
  zmx l l.length 0 c=some (if l.all znm=true then .inr c else .inl false):=by
 rw[zmx]
 refine zwh (F:=fun s:(List Ripe)×Int×Int×zb=>(zei s.1 s.2.1 s.2.2.1 s.2.2.2).run) l default (fun i=>(l,(l.length:Int),(i:Int),c)) znm false c ?_ ?_ ?_
 ·simp only[zei];rw[Tr.rf (by simp),Tr.rl]
 ·intro i hi hp
  simp only[zei,yy4,z8g]
  rw[Tr.rt (by simpa using hi),Tr.rg ⟨by omega,by rw[zdm];omega⟩,Tr.rf (by rw[hp];rfl),Tr.rl,zl (by omega)]
 ·intro i hi hp
  simp only[zei,yy4,z8g]
  rw[Tr.rt (by simpa using hi),Tr.rg ⟨by omega,by rw[zdm];omega⟩,Tr.rt (by rw[hp];rfl),Tr.rl]
theorem zaup (c:zb):(((((((c.On&&c.Gone)||(decide (c.Height < 0)))||(decide (c.Height≥1099511627776)))||(decide (c.Time < 0)))||(decide (c.Time > 1099511627776)))||(decide (c.Id < 0)))||(decide (c.Id > 1099511627776))) = !decide (zajg c):=by
 rw[Bool.eq_iff_iff]
 rw[Bool.not_eq_true',yy8]
 unfold zajg
 generalize (c.On&&c.Gone)=b
 cases b<;>simp only[Bool.or_eq_true,decide_eq_true_eq,reduceCtorEq,true_or,false_or,false_and,true_and,not_false_eq_true,iff_true]<;>omega
theorem z0k {c:zb} (h:FitC 140737488351232 c):zfz c=some (zkq c):=by
 have e1:=h.set;have e2:=h.pend;have e3:=h.ripes
 rw[zfz,zud]
 simp only[zaup,z9q,Option.isSome_some,yy2]
 rw[Tr.rg (by simp)]
 unfold zkq
 by_cases h1:zajg c
 ·by_cases h2:zeg c.Out
  ·rw[Tr.rf (by simp[h1,h2]),decide_eq_true h1,decide_eq_true h2]
   obtain ⟨r,f1,f2⟩:=za0s (c:=c) (by omega)
   cases r with
   | inl b=>rw[Tr.ri f1,Tr.rl,f2.1,f2.2];rfl
   | inr x =>
    rw[Tr.rj f1,f2.1,f2.2]
    have f3:=zarf (l:=c.Ripes) (c:=c) (by omega)
    by_cases h4:c.Ripes.all znm=true
    ·rw[if_pos h4] at f3
     rw[Tr.rj f3,Tr.rb (za0r (by omega) h.ps),Tr.rl,h4]
     simp
    ·rw[if_neg h4] at f3
     rw[Tr.ri f3,Tr.rl]
     simp[h4]
  ·rw[Tr.rt (by simp[h2]),Tr.rl,decide_eq_false h2]
   simp
 ·rw[Tr.rt (by simp[h1]),Tr.rl,decide_eq_false h1]
  simp
theorem za7s {l:List Power} (hl:l.length≤9223372036854775807):zd9 l=some (zv 1 (-1) l):=by
 have:∃ r,zu0 (-1) l l.length 0=some r∧(match r with | .inl b=>b=false∧zv 1 (-1) l=false | .inr _=>zv 1 (-1) l=true):=by
  have:=zjt (F:=fun s:Int×(List Power)×Int×Int=>(zi4 s.1 s.2.1 s.2.2.1 s.2.2.2).run)
   (fun s=>s.2.1=l∧s.2.2.1=l.length∧0≤s.2.2.2∧s.2.2.2≤l.length) (fun s=>l.length - s.2.2.2.toNat)
   (fun s r=>match r with | .inl b=>b=false∧zv 1 s.1 (l.drop s.2.2.2.toNat)=false | .inr x=>zv 1 s.1 (l.drop s.2.2.2.toNat)=true) ?_ (-1,l,(l.length:Int),0) ⟨rfl,rfl,by simp,by simp⟩
  ·exact this
  ·rintro ⟨x0,x1,x2,x3⟩ ⟨h1,h2,h3,h4⟩
   simp only at h1 h2 h3 h4
   rw[h1,h2] at *
   simp only[zi4]
   by_cases hc:x3 < l.length
   ·have hs:=z6 (l:=l) (k:=x3.toNat) (by omega) default
    rw[Tr.rt (by simpa using hc),Tr.rg ⟨h3,hc⟩,hs]
    generalize hq:l.getD x3.toNat default=q at *
    by_cases hd:x0 < q.V∧q.V≤5∧1≤q.N∧q.N≤1125899906842624
    ·obtain ⟨d1,d2,d3,d4⟩:=hd
     have hw:i64.wrap (x3+1)=x3+1:=zg (by omega) (by omega)
     refine .inl ⟨_,by rw[Tr.rf (by simp;omega),Tr.rl,hw],⟨rfl,rfl,?_,?_⟩,?_,?_⟩
     ·simp only[];omega
     ·simp only[];omega
     ·simp only[];omega
     ·simp only[]
      rw[show (x3+1).toNat=x3.toNat+1 by omega]
      intro r hr
      rw[zv,decide_eq_true d1,decide_eq_true d2,decide_eq_true d3,decide_eq_true d4]
      simpa using hr
    ·refine .inr ⟨_,by rw[Tr.rt (by simp;omega),Tr.rl],?_⟩
     refine ⟨rfl,?_⟩
     rw[zv]
     simp only[Bool.and_eq_false_iff,yy8]
     omega
   ·refine .inr ⟨_,by rw[Tr.rf (by simpa using hc),Tr.rl],?_⟩
    rw[List.drop_eq_nil_of_le (by omega)];rfl
 obtain ⟨r,h1,h2⟩:=this
 rw[zd9,zz7]
 cases r with
 | inl b=>rw[Tr.ri h1,Tr.rl,h2.1,h2.2]
 | inr x=>rw[Tr.rj h1,Tr.rl,h2]
theorem za0t {l:List Packet} {c:zb} (hl:l.length≤9223372036854775807) (hp:∀ p,p∈l→p.Set.length*16≤140737488351232∧p.Done.length*8≤140737488351232) :
  zjc l l.length 0 c=some (if l.all zlg=true then .inr c else .inl false):=by
 rw[zjc]
 have test:∀ i,i < l.length→(((l.getD i default).Kind != 1)||(((za2 (l.getD i default)).getD default) != 0)) = !zlg (l.getD i default):=by
  intro i hi
  obtain ⟨p1,p2⟩:=hp _ (zbk (l:=l) (k:=i) hi default)
  rw[zna p1 p2,yy2]
  unfold zlg
  rw[Bool.not_and];rfl
 refine zwh (F:=fun s:(List Packet)×Int×Int×zb=>(zcm s.1 s.2.1 s.2.2.1 s.2.2.2).run) l default (fun i=>(l,(l.length:Int),(i:Int),c)) zlg false c ?_ ?_ ?_
 ·simp only[zcm];rw[Tr.rf (by simp),Tr.rl]
 ·intro i hi hq
  obtain ⟨p1,p2⟩:=hp _ (zbk (l:=l) (k:=i) hi default)
  simp only[zcm,yy4]
  rw[Tr.rt (by simpa using hi),Tr.rg ⟨by omega,by rw[zan];omega⟩,Tr.rg (by rw[zna p1 p2];simp),Tr.rf (by rw[test i hi,hq];rfl),Tr.rl,zl (by omega)]
 ·intro i hi hq
  obtain ⟨p1,p2⟩:=hp _ (zbk (l:=l) (k:=i) hi default)
  simp only[zcm,yy4]
  rw[Tr.rt (by simpa using hi),Tr.rg ⟨by omega,by rw[zan];omega⟩,Tr.rg (by rw[zna p1 p2];simp),Tr.rt (by rw[test i hi,hq];rfl),Tr.rl]
theorem zauq {l:List Ripe} {c:zb} (hl:l.length≤9223372036854775807) :
  zjd l l.length 0 c=some (if l.all znm=true then .inr c else .inl false):=by
 rw[zjd]
 refine zwh (F:=fun s:(List Ripe)×Int×Int×zb=>(zcn s.1 s.2.1 s.2.2.1 s.2.2.2).run) l default (fun i=>(l,(l.length:Int),(i:Int),c)) znm false c ?_ ?_ ?_
 ·simp only[zcn];rw[Tr.rf (by simp),Tr.rl]
 ·intro i hi hp
  simp only[zcn,yy4,z8g]
  rw[Tr.rt (by simpa using hi),Tr.rg ⟨by omega,by rw[zdm];omega⟩,Tr.rf (by rw[hp];rfl),Tr.rl,zl (by omega)]
 ·intro i hi hp
  simp only[zcn,yy4,z8g]
  rw[Tr.rt (by simpa using hi),Tr.rg ⟨by omega,by rw[zdm];omega⟩,Tr.rt (by rw[hp];rfl),Tr.rl]
theorem zarg (c:zb):(((((((!(c.On&&c.Gone))&&(decide (c.Height≥0)))&&(decide (c.Height < 1099511627776)))&&(decide (c.Time≥0)))&&(decide (c.Time≤1099511627776)))&&(decide (c.Id≥0)))&&(decide (c.Id≤1099511627776)))=decide (zajg c):=by
 rw[Bool.eq_iff_iff]
 rw[decide_eq_true_iff]
 unfold zajg
 generalize (c.On&&c.Gone)=b
 cases b<;>simp only[yy7,Bool.not_false,Bool.not_true,decide_eq_true_eq,reduceCtorEq,false_and,true_and]<;>omega
theorem zqq {c:zb} (h:FitC 140737488351232 c):zdv c=some (zkq c):=by
 have e1:=h.set;have e2:=h.pend;have e3:=h.ripes;have e4:=h.due
 rw[zdv,zon]
 have f1:=za0t (l:=c.Pending) (c:=c) (by omega) h.ps
 have f2:=zauq (l:=c.Ripes) (c:=c) (by omega)
 unfold zkq
 by_cases h1:c.Pending.all zlg=true
 ·rw[if_pos h1] at f1
  rw[Tr.rj f1]
  by_cases h2:c.Ripes.all znm=true
  ·rw[if_pos h2] at f2
   rw[Tr.rj f2]
   simp only[zarg,zto (l:=c.Out) (by omega),za7s (l:=c.Set) (by omega),Option.isSome_some,yy2]
   rw[Tr.rg (by simp),Tr.rg (by simp),Tr.rl,h1,h2]
   simp
  ·rw[if_neg h2] at f2
   rw[Tr.ri f2,Tr.rl]
   simp[h2]
 ·rw[if_neg h1] at f1
  rw[Tr.ri f1,Tr.rl]
  simp[h1]
theorem zapj {l:List Power} {v:Int} (hl:l.length≤9223372036854775807):zaq l v=some (zc8 l v):=by
 obtain ⟨r,h1,h2⟩:=zgg (F:=fun s:Int×(List Power)×Int×Int=>(zfj s.1 s.2.1 s.2.2.1 s.2.2.2).run) l.length
  (fun i (_:Unit)=>(v,l,(l.length:Int),(i:Int))) (fun i _=>True) (fun i _ r=>match r with | .inl x=>zc8 (l.drop i) v=x | .inr _=>zc8 (l.drop i) v=0) (by
   intro t _
   refine ⟨.inr (),?_,?_⟩
   ·simp only[zfj];rw[Tr.rf (by simp),Tr.rl]
   ·rw[List.drop_length];rfl) (by
   intro i t hi _
   have hs:=z6 (l:=l) (k:=i) hi default
   simp only[zfj,yy4]
   rw[Tr.rt (by simpa using hi),Tr.rg ⟨by omega,by rw[zo];omega⟩,hs]
   by_cases hv:(l.getD i default).V=v
   ·exact .inr ⟨.inl (l.getD i default).N,by rw[Tr.rt (by rw[hv];simp),Tr.rl],by simp only[zc8];rw[if_pos hv]⟩
   ·refine .inl ⟨(),by rw[Tr.rf (by simpa using hv),Tr.rl,zl (by omega)],trivial,?_⟩
    intro r hr
    simp only[zc8]
    rw[if_neg hv]
    exact hr) 0 () (by omega) trivial
 have h1:zso v l l.length 0=some r:=h1
 simp only[List.drop_zero] at h2
 rw[zaq,zr3]
 cases r with
 | inl x=>rw[Tr.ri h1,Tr.rl,← h2]
 | inr x=>rw[Tr.rj h1,Tr.rl,h2]
theorem zapk {c:zb} (h:FitC 140737488351232 c):zh7 c=some c:=by
 have e1:=h.set;have e2:=h.pend;have e3:=h.ripes
 have key:∀ z:zb,zi9 c.Pending c.Pending.length 0 c z []=some (c,z,c.Pending):=by
  intro z
  have:=zcd (F:=fun s:(List Packet)×Int×Int×zb×zb×(List Packet)=>(zea s.1 s.2.1 s.2.2.1 s.2.2.2.1 s.2.2.2.2.1 s.2.2.2.2.2).run) c.Pending default
   (fun i t=>(c.Pending,(c.Pending.length:Int),(i:Int),c,z,t)) (fun i t=>t.length=i) (fun t a=>t++[a]) (fun t=>(c,z,t)) (by
    intro t _
    simp only[zea];rw[Tr.rf (by simp),Tr.rl]) (by
    intro i t hi ht
    obtain ⟨p1,p2⟩:=h.ps _ (zbk (l:=c.Pending) (k:=i) hi default)
    refine ⟨?_,by simp[ht]⟩
    simp only[zea,yy4]
    rw[Tr.rt (by simpa using hi),Tr.rg ⟨by omega,by rw[zan];omega⟩,Tr.rb (z3k p1 p2),Tr.rg (by simp only[zan,yy5];omega),Tr.rl,zl (by omega)]) [] rfl
  rw[z9p,List.nil_append] at this
  rw[zi9];exact this
 rw[zh7,zok]
 simp only[zadv h.said h.due,Option.isSome_some,yy2]
 rw[Tr.rg (by rw[zo];omega),Tr.rg (by trivial),Tr.rg (by rw[zdm];omega),Tr.rb (key _),Tr.rl]
theorem zag1 {c:zb} (h:FitC 140737488351232 c):zgb c=some c:=by
 have e1:=h.set;have e2:=h.pend;have e3:=h.ripes
 have key:∀ z:zb,zhf c.Pending c.Pending.length 0 c z []=some (c,z,c.Pending):=by
  intro z
  have:=zcd (F:=fun s:(List Packet)×Int×Int×zb×zb×(List Packet)=>(zc5 s.1 s.2.1 s.2.2.1 s.2.2.2.1 s.2.2.2.2.1 s.2.2.2.2.2).run) c.Pending default
   (fun i t=>(c.Pending,(c.Pending.length:Int),(i:Int),c,z,t)) (fun i t=>t.length=i) (fun t a=>t++[a]) (fun t=>(c,z,t)) (by
    intro t _
    simp only[zc5];rw[Tr.rf (by simp),Tr.rl]) (by
    intro i t hi ht
    obtain ⟨p1,p2⟩:=h.ps _ (zbk (l:=c.Pending) (k:=i) hi default)
    refine ⟨?_,by simp[ht]⟩
    simp only[zc5,yy4]
    rw[Tr.rt (by simpa using hi),Tr.rg ⟨by omega,by rw[zan];omega⟩,Tr.rb (z3k p1 p2),Tr.rg (by simp only[zan,yy5];omega),Tr.rl,zl (by omega)]) [] rfl
  rw[z9p,List.nil_append] at this
  rw[zhf];exact this
 rw[zgb,zlm]
 simp only[zadv h.said h.due,Option.isSome_some,yy2]
 rw[Tr.rg (by rw[zo];omega),Tr.rg (by trivial),Tr.rg (by rw[zdm];omega),Tr.rb (key _),Tr.rl]
structure zaur (c:zb):Prop where
 set:c.Set.length≤9223372036854775807
 pend:c.Pending.length≤9223372036854775807
 ripes:c.Ripes.length≤9223372036854775807
 said:c.Out.Said.length≤9223372036854775807
 due:c.Out.Due.length≤9223372036854775807
 ps:∀ p,p∈c.Pending→p.Set.length≤9223372036854775807∧p.Done.length≤9223372036854775807
theorem FitC.count {c:zb} (h:FitC 9223372036854775807 c):zaur c:=by
 have e1:=h.set;have e2:=h.pend;have e3:=h.ripes;have e4:=h.said;have e5:=h.due
 exact ⟨by omega,by omega,by omega,by omega,by omega,fun p hp=>⟨by have:=(h.ps p hp).1;omega,by have:=(h.ps p hp).2;omega⟩⟩
theorem zapl {c:zb} (h:zaur c):zbp c c=some true:=by
 have e1:=h.set;have e2:=h.pend;have e3:=h.ripes
 have k1:zja c.Pending.length 0 c c=some (.inr (c,c)):=by
  rw[zja]
  refine (zwh (F:=fun s:Int×Int×zb×zb=>(zeb s.1 s.2.1 s.2.2.1 s.2.2.2).run) c.Pending default (fun i=>((c.Pending.length:Int),(i:Int),c,c)) (fun _=>true) false (c,c) ?_ ?_ ?_).trans ?_
  ·simp only[zeb];rw[Tr.rf (by simp),Tr.rl]
  ·intro i hi _
   obtain ⟨p1,p2⟩:=h.ps _ (zbk (l:=c.Pending) (k:=i) hi default)
   simp only[zeb,yy4,zadz p1 p2,Option.isSome_some,yy2]
   rw[Tr.rt (by simpa using hi),Tr.rg ⟨by omega,by rw[zan];omega⟩,Tr.rg ⟨by omega,by rw[zan];omega⟩,Tr.rg (by trivial),Tr.rf (by rfl),Tr.rl,zl (by omega)]
  ·intro i hi hp;cases hp
  ·rw[if_pos (by simp)]
 have k2:zjb c.Ripes.length 0 c c=some (.inr ()):=by
  rw[zjb]
  refine (zwh (F:=fun s:Int×Int×zb×zb=>(zec s.1 s.2.1 s.2.2.1 s.2.2.2).run) c.Ripes default (fun i=>((c.Ripes.length:Int),(i:Int),c,c)) (fun _=>true) false () ?_ ?_ ?_).trans ?_
  ·simp only[zec];rw[Tr.rf (by simp),Tr.rl]
  ·intro i hi _
   simp only[zec,yy4]
   rw[Tr.rt (by simpa using hi),Tr.rg ⟨by omega,by rw[zdm];omega⟩,Tr.rg ⟨by omega,by rw[zdm];omega⟩,Tr.rf (by simp),Tr.rl,zl (by omega)]
  ·intro i hi hp;cases hp
  ·rw[if_pos (by simp)]
 rw[zbp,zom]
 simp only[z20 e1,zao1 h.said h.due,Option.isSome_some,yy2]
 rw[Tr.rg (by simp),Tr.rg (by simp),Tr.rf (by simp),Tr.rj k1]
 simp only[]
 rw[Tr.rj k2,Tr.rl]
def zys (l:List Power) (id now:Int):zb:=⟨true,false,0,now,id,l,[],[],⟨false,false,false,false,false,false⟩,⟨[],[],0,false⟩,⟨0,0,0,0⟩⟩
theorem za0u {l:List Power} {id now:Int} (hl:l.length*16≤140737488355328):zk7 l id now=some (zys l id now):=by
 rw[zk7,zr2,Tr.rb (zarc hl),Tr.rl];rfl
theorem zanm {l:List Power} {id now:Int} (hl:l.length*16≤140737488355328):zgw l id now=some (zys l id now):=by
 rw[zgw,zm6,Tr.rg (by rw[zo];omega),Tr.rl];rfl
def z29 (c:zb) (s:List UInt8):zb×Int :=
 if zkq c=false then (c,2) else if c.On=false then (c,4) else if (zaz s).2≠0 then (c,(zaz s).2) else if (zaz s).1.Kind≠1 then (c,3)
 else ({ c with Pending:=c.Pending++[(zaz s).1] },0)
theorem za7t {c:zb} {a:ByteArray} (h:FitC 140737488351232 c) (ha:a.size≤140737488355328):zml c a=some (z29 c a.data.toList):=by
 have e1:zg6 a=some (zaz a.data.toList):=zak4 (s:=a.data.toList) (by have:a.data.toList.length=a.size:=rfl;omega)
 have e2:=h.pend
 rw[zml,zue,Tr.rb e1,Tr.rb (z0k h)]
 simp only[zard (l:=c.Pending) (by omega),Option.isSome_some,yy2]
 unfold z29
 cases hg:zkq c with
 | false=>rw[Tr.rt (by rfl),Tr.rl,if_pos rfl]
 | true =>
  rw[Tr.rf (by rfl),if_neg (by simp)]
  cases ho:c.On with
  | false=>rw[Tr.rt (by rfl),Tr.rl,if_pos rfl]
  | true =>
   rw[Tr.rf (by rfl),if_neg (by simp)]
   by_cases hd:(zaz a.data.toList).2=0
   ·rw[Tr.rf (by simpa using hd),if_neg (by simpa using hd)]
    by_cases hk:(zaz a.data.toList).1.Kind=1
    ·rw[Tr.rf (by simpa using hk),if_neg (by simpa using hk),Tr.rg (by trivial),Tr.rg (by simp only[zan,yy5];omega),Tr.rl]
    ·rw[Tr.rt (by simpa using hk),if_pos hk,Tr.rl]
   ·rw[Tr.rt (by simpa using hd),if_pos hd,Tr.rl]
theorem zarh {c:zb} {a:ByteArray} (h:FitC 140737488351232 c) (ha:a.size≤140737488355328):zia c a=some (z29 c a.data.toList):=by
 have e1:zds a=some (zaz a.data.toList):=zaas (s:=a.data.toList) (by have:a.data.toList.length=a.size:=rfl;omega)
 have e2:=h.pend
 rw[zia,zoo,Tr.rb (zqq h)]
 unfold z29
 cases hg:zkq c with
 | false=>rw[Tr.rt (by rfl),Tr.rl,if_pos rfl]
 | true =>
  rw[Tr.rf (by rfl),if_neg (by simp)]
  cases ho:c.On with
  | false=>rw[Tr.rt (by rfl),Tr.rl,if_pos rfl]
  | true =>
   rw[Tr.rf (by rfl),if_neg (by simp),Tr.rb e1]
   by_cases hd:(zaz a.data.toList).2=0
   ·rw[Tr.rf (by simpa using hd),if_neg (by simpa using hd)]
    by_cases hk:(zaz a.data.toList).1.Kind=1
    ·rw[Tr.rf (by simpa using hk),if_neg (by simpa using hk),Tr.rb (zag1 h),Tr.rg (by simp only[zan,yy5];omega),Tr.rl];simp only[ho]
    ·rw[Tr.rt (by simpa using hk),if_pos hk,Tr.rl]
   ·rw[Tr.rt (by simpa using hd),if_pos hd,Tr.rl]
def zvk (p:Packet) (now:Int) (c:zb):Int×zb :=
 if (zes p).2≠0 then ((zes p).2,c)
 else if (sayL c.Out (zes p).1 (i64.wrap (now+40))).2≠0 then ((sayL c.Out (zes p).1 (i64.wrap (now+40))).2,c)
 else (0,{ c with Out:=(sayL c.Out (zes p).1 (i64.wrap (now+40))).1 })
theorem zabx {p:Packet} {now:Int} {c:zb} (h:(zvk p now c).1≠0):(zvk p now c).2=c:=by
 unfold zvk at h ⊢
 split
 ·rfl
 ·split
  ·rfl
  ·rename_i h1 h2
   rw[if_neg h1,if_neg h2] at h
   exact absurd rfl h
theorem za0v {R:Nat} (hR:6416≤R) {l:zbs} {s:ByteArray} {u:Int} (h1:l.Said.length*16≤R) (h2:l.Due.length*8≤R):(sayL l s u).1.Said.length*16≤R∧(sayL l s u).1.Due.length*8≤R:=by
 unfold sayL
 split
 ·exact ⟨h1,h2⟩
 ·rename_i h0
  split
  ·exact ⟨h1,h2⟩
  ·split
   ·exact ⟨h1,h2⟩
   ·have hg:zeg l:=by
     refine Classical.byContradiction fun hn=>h0 (.inl hn)
    have e:=hg.1
    simp only[yy6,yy5]
    omega
theorem za0w {R:Nat} (hR:6416≤R) {p:Packet} {now:Int} {c:zb} (h:FitC R c):FitC R (zvk p now c).2:=by
 unfold zvk
 split
 ·exact h
 ·split
  ·exact h
  ·obtain ⟨k1,k2⟩:=za0v hR (s:=(zes p).1) (u:=i64.wrap (now+40)) h.said h.due
   exact ⟨h.set,h.pend,h.ripes,k1,k2,h.ps⟩
theorem z9x {p:Packet} {now:Int} {c:zb}:(zvk p now c).2.Ripes=c.Ripes:=by
 unfold zvk
 repeat' split
 all_goals rfl
theorem zapm {p:Packet} {now:Int} {c:zb} (h1:p.Set.length*16≤140737488351232) (h2:p.Done.length*8≤140737488351232):zca p now c=some (zvk p now c):=by
 rw[zca,zxc,Tr.rb (zady h1 h2)]
 unfold zvk
 by_cases he:(zes p).2=0
 ·rw[if_neg (by simpa using he),Tr.rf (by simpa using he),Tr.rb (za3w _ _ _)]
  by_cases hs:(sayL c.Out (zes p).1 (i64.wrap (now+40))).2=0
  ·rw[if_neg (by simpa using hs),Tr.rf (by simpa using hs),Tr.rl]
  ·rw[if_pos hs,Tr.rt (by simpa using hs),Tr.rl]
 ·rw[if_pos he,Tr.rt (by simpa using he),Tr.rl]
theorem z8h {p:Packet} {now:Int} {c:zb} (h:FitC 140737488351232 c) (h1:p.Set.length*16≤140737488351232) (h2:p.Done.length*8≤140737488351232) :
  zaf c p now=some ((zvk p now c).2,(zvk p now c).1):=by
 have hd:=h.due
 rw[zaf,z2o,Tr.rb (z21 h1 h2)]
 unfold zvk
 by_cases he:(zes p).2=0
 ·rw[if_neg (by simpa using he),Tr.rf (by simpa using he),Tr.rb (zak0 _ _ (by omega))]
  by_cases hs:(sayL c.Out (zes p).1 (i64.wrap (now+40))).2=0
  ·rw[if_neg (by simpa using hs),Tr.rf (by simpa using hs),Tr.rb (zapk h),Tr.rl]
  ·rw[if_pos hs,Tr.rt (by simpa using hs),Tr.rl]
 ·rw[if_pos he,Tr.rt (by simpa using he),Tr.rl]
def clrC (c:zb) (v:Int):zb:={ c with Flags:=c.Flags.set v false }
def zag2 (c:zb) (l:List Int):zb:=l.foldl clrC c
theorem z8i:∀ (l:List Int) (c:zb),zag2 c l={ c with Flags:=l.foldl (fun f v=>f.set v false) c.Flags }
 | [],c=>rfl
 | v::l,c=>by unfold zag2;rw[List.foldl_cons];exact (z8i l (clrC c v)).trans rfl
def zsh (now:Int) (c:zb) (p:Packet):zb :=
 { zag2 { c with Set:=z2y c.Set p.Set,Id:=p.Id } p.Done with Ripes:=(zag2 { c with Set:=z2y c.Set p.Set,Id:=p.Id } p.Done).Ripes++[⟨p.Id,i64.wrap (now+15)⟩] }
theorem z0l (now:Int) (c:zb) (p:Packet) :
  zsh now c p={ c with Set:=z2y c.Set p.Set,Id:=p.Id,Flags:=p.Done.foldl (fun f v=>f.set v false) c.Flags,Ripes:=c.Ripes++[⟨p.Id,i64.wrap (now+15)⟩] }:=by
 unfold zsh;rw[z8i]
def zrk (now:Int):List Ripe→zb→zb
 | [],c=>c
 | r::rs,c=>if r.Due≤now then (if (zvk ⟨2,r.Id,0,0,[],[]⟩ now c).1≠0 then c else zrk now rs { (zvk ⟨2,r.Id,0,0,[],[]⟩ now c).2 with Ripes:=rs }) else c
def endC (now:Int) (c:zb):zb×Int :=
 if zkq c=false then (c,2) else if c.On=false then (c,4) else if now < c.Time∨1099511627776 < now then (c,2)
 else (zrk now (c.Pending.foldl (zsh now) { c with Height:=i64.wrap (c.Height+1),Time:=now }).Ripes { c.Pending.foldl (zsh now) { c with Height:=i64.wrap (c.Height+1),Time:=now } with Pending:=[] },0)
theorem zbht {now x2 x3:Int} {x1:List Packet} {l:List Int} {c z:zb} {p:Packet} (hl:l.length≤9223372036854775807) (hv:∀ v,v∈l→0≤v∧v≤5) :
  zoc now x1 x2 x3 l l.length 0 c z p=some (now,x1,x2,x3,zag2 c l,z,p):=by
 rw[zoc]
 refine zcd (F:=fun s:Int×(List Packet)×Int×Int×(List Int)×Int×Int×zb×zb×Packet=>(zha s.1 s.2.1 s.2.2.1 s.2.2.2.1 s.2.2.2.2.1 s.2.2.2.2.2.1 s.2.2.2.2.2.2.1 s.2.2.2.2.2.2.2.1 s.2.2.2.2.2.2.2.2.1 s.2.2.2.2.2.2.2.2.2).run) l 0
  (fun i t=>(now,x1,x2,x3,l,(l.length:Int),(i:Int),t,z,p)) (fun _ _=>True) clrC (fun t=>(now,x1,x2,x3,t,z,p)) ?_ ?_ c trivial
 ·intro t _
  simp only[zha];rw[Tr.rf (by simp),Tr.rl]
 ·intro i t hi _
  have hm:=hv _ (zbk (l:=l) (k:=i) hi 0)
  refine ⟨?_,trivial⟩
  simp only[zha,yy4]
  rw[Tr.rt (by simpa using hi),Tr.rg ⟨by omega,by rw[zer];omega⟩,Tr.rg (by omega),Tr.rl,zl (by omega)]
  rfl
theorem zari {now x2 x3:Int} {x1:List Packet} {l:List Int} {c z:zb} {p:Packet} (hl:l.length≤9223372036854775807) (hv:∀ v,v∈l→0≤v∧v≤5) :
  zke now x1 x2 x3 l l.length 0 z c p=some (now,x1,x2,x3,z,zag2 c l,p):=by
 rw[zke]
 refine zcd (F:=fun s:Int×(List Packet)×Int×Int×(List Int)×Int×Int×zb×zb×Packet=>(zew s.1 s.2.1 s.2.2.1 s.2.2.2.1 s.2.2.2.2.1 s.2.2.2.2.2.1 s.2.2.2.2.2.2.1 s.2.2.2.2.2.2.2.1 s.2.2.2.2.2.2.2.2.1 s.2.2.2.2.2.2.2.2.2).run) l 0
  (fun i t=>(now,x1,x2,x3,l,(l.length:Int),(i:Int),z,t,p)) (fun _ _=>True) clrC (fun t=>(now,x1,x2,x3,z,t,p)) ?_ ?_ c trivial
 ·intro t _
  simp only[zew];rw[Tr.rf (by simp),Tr.rl]
 ·intro i t hi _
  have hm:=hv _ (zbk (l:=l) (k:=i) hi 0)
  refine ⟨?_,trivial⟩
  simp only[zew,yy4]
  rw[Tr.rt (by simpa using hi),Tr.rg ⟨by omega,by rw[zer];omega⟩,Tr.rg (by omega),Tr.rl,zl (by omega)]
  rfl
theorem z8j {l:List Packet} (h:l.all zlg=true):∀ p,p∈l→zgt p=0∧p.Kind=1∧(∀ v,v∈p.Done→0≤v∧v≤5):=by
 intro p hp
 have h1:=List.all_eq_true.1 h p hp
 unfold zlg at h1
 simp only[yy7,beq_iff_eq] at h1
 obtain ⟨g1,g2,g3,g4,g5,g6,g7,g8,g9,g10,_,_⟩:=zp8 h1.2
 exact ⟨h1.2,h1.1,zyj g10 (by omega)⟩
theorem zbhu {now:Int} {l:List Packet} {c z:zb} (hl:l.length≤9223372036854775807) (hg:l.all zlg=true) (hs:c.Set.length≤9223372036854775807)
  (hp:∀ p,p∈l→p.Set.length*16≤140737488351232∧p.Done.length*8≤140737488351232) (hr:(c.Ripes.length+l.length)*16≤140737488355328) :
  zod now l l.length 0 c z=some (now,l.foldl (zsh now) c,z):=by
 rw[zod]
 refine zcd (F:=fun s:Int×(List Packet)×Int×Int×zb×zb=>(zhb s.1 s.2.1 s.2.2.1 s.2.2.2.1 s.2.2.2.2.1 s.2.2.2.2.2).run) l default
  (fun i t=>(now,l,(l.length:Int),(i:Int),t,z)) (fun i t=>t.Ripes.length=c.Ripes.length+i∧t.Set.length≤9223372036854775807) (zsh now) (fun t=>(now,t,z)) ?_ ?_ c ⟨rfl,hs⟩
 ·intro t _
  simp only[zhb];rw[Tr.rf (by simp),Tr.rl]
 ·intro i t hi ht
  obtain ⟨t1,t2⟩:=ht
  have hm:=zbk (l:=l) (k:=i) hi default
  obtain ⟨p1,p2⟩:=hp _ hm
  obtain ⟨q1,q2,q3⟩:=z8j hg _ hm
  have hset:=z2z (fun v=>z2w (l.getD i default).Set v (zc8 t.Set v))
  refine ⟨?_,by rw[z0l];simp only[yy6,yy5];omega,by rw[z0l];unfold z2y;simp only[];omega⟩
  simp only[zhb,yy4]
  rw[Tr.rt (by simpa using hi),Tr.rg ⟨by omega,by rw[zan];omega⟩,Tr.rb (zazx t2 (by omega)),Tr.rb (zbht (by omega) q3)]
  simp only[]
  rw[Tr.rg (by simp only[zdm,yy5,z8i];omega),Tr.rl,zl (by omega)]
  rfl
theorem zarj {now:Int} {l:List Packet} {c z:zb} (hl:l.length≤9223372036854775807) (hg:l.all zlg=true) (hs:c.Set.length≤9223372036854775807)
  (hp:∀ p,p∈l→p.Set.length*16≤140737488351232∧p.Done.length*8≤140737488351232) (hr:(c.Ripes.length+l.length)*16≤140737488355328) :
  zkf now l l.length 0 z c=some (now,z,l.foldl (zsh now) c):=by
 rw[zkf]
 refine zcd (F:=fun s:Int×(List Packet)×Int×Int×zb×zb=>(zex s.1 s.2.1 s.2.2.1 s.2.2.2.1 s.2.2.2.2.1 s.2.2.2.2.2).run) l default
  (fun i t=>(now,l,(l.length:Int),(i:Int),z,t)) (fun i t=>t.Ripes.length=c.Ripes.length+i∧t.Set.length≤9223372036854775807) (zsh now) (fun t=>(now,z,t)) ?_ ?_ c ⟨rfl,hs⟩
 ·intro t _
  simp only[zex];rw[Tr.rf (by simp),Tr.rl]
 ·intro i t hi ht
  obtain ⟨t1,t2⟩:=ht
  have hm:=zbk (l:=l) (k:=i) hi default
  obtain ⟨p1,p2⟩:=hp _ hm
  obtain ⟨q1,q2,q3⟩:=z8j hg _ hm
  have hset:=z2z (fun v=>z2w (l.getD i default).Set v (zc8 t.Set v))
  refine ⟨?_,by rw[z0l];simp only[yy6,yy5];omega,by rw[z0l];unfold z2y;simp only[];omega⟩
  simp only[zex,yy4,zam9 (a:=t.Set) (d:=(l.getD i default).Set) t2 (by omega),Option.isSome_some,yy2]
  rw[Tr.rt (by simpa using hi),Tr.rg ⟨by omega,by rw[zan];omega⟩,Tr.rg (by trivial),Tr.rb (zari (by omega) q3)]
  simp only[]
  rw[Tr.rg (by simp only[zdm,yy5,z8i];omega),Tr.rl,zl (by omega)]
  rfl
theorem za32 {now:Int} {z:zb}:∀ (rs:List Ripe) (c:zb),c.Ripes=rs→zc2 now c z=some (zrk now rs c,z)
 | [],c,h=>by
  rw[zc2]
  refine zba ?_
  simp only[zfc,h]
  rw[Tr.rg (by simp),Tr.rf (by simp),Tr.rl]
  rfl
 | r::rs,c,h=>by
  have hlen:(Sl.len (.ripes (r::rs)))=rs.length+1:=rfl
  unfold zrk
  by_cases hd:r.Due≤now
  ·rw[if_pos hd]
   by_cases hs:(zvk ⟨2,r.Id,0,0,[],[]⟩ now c).1=0
   ·rw[if_neg (by simpa using hs),← za32 rs { (zvk ⟨2,r.Id,0,0,[],[]⟩ now c).2 with Ripes:=rs } rfl,zc2,zc2]
    refine zab ?_
    simp only[zfc,h,List.getD_cons_zero,hlen,z9x]
    rw[Tr.rg (by intro _;exact ⟨⟨by omega,by omega⟩,trivial⟩),Tr.rt (by simp[hd]),Tr.rg (by omega),Tr.rb (zapm (by simp) (by simp)),Tr.rf (by simpa using hs)]
    simp only[z9x,h,hlen]
    rw[Tr.rg (by omega),Tr.rl]
    simp only[List.drop_succ_cons,List.drop_zero,yy4,Nat.add_sub_cancel,List.take_length]
   ·rw[if_pos hs,zc2]
    refine zba ?_
    simp only[zfc,h,List.getD_cons_zero,hlen]
    rw[Tr.rg (by intro _;exact ⟨⟨by omega,by omega⟩,trivial⟩),Tr.rt (by simp[hd]),Tr.rg (by omega),Tr.rb (zapm (by simp) (by simp)),Tr.rt (by simpa using hs),Tr.rl,zabx hs]
  ·rw[if_neg hd,zc2]
   refine zba ?_
   simp only[zfc,h,List.getD_cons_zero,hlen]
   rw[Tr.rg (by intro _;exact ⟨⟨by omega,by omega⟩,trivial⟩),Tr.rf (by simp[hd]),Tr.rl]
theorem zag3 {now:Int} {z:zb}:∀ (rs:List Ripe) (c:zb),c.Ripes=rs→FitC 140737488351232 c →
  ∃ r,zbq now z c=some r∧(match r with | .inl y=>y=(0,zrk now rs c) | .inr y=>y.2=zrk now rs c)
 | [],c,h,hf=>by
  refine ⟨.inr (z,c),?_,rfl⟩
  rw[zbq]
  refine zba ?_
  simp only[zdg,h]
  rw[Tr.rg (by simp),Tr.rf (by simp),Tr.rl]
 | r::rs,c,h,hf=>by
  have hlen:(Sl.len (.ripes (r::rs)))=rs.length+1:=rfl
  have hsay:=z8h (p:=⟨2,r.Id,0,0,[],[]⟩) (now:=now) hf (by simp) (by simp)
  unfold zrk
  by_cases hd:r.Due≤now
  ·rw[if_pos hd]
   by_cases hs:(zvk ⟨2,r.Id,0,0,[],[]⟩ now c).1=0
   ·rw[if_neg (by simpa using hs)]
    have hfit:=za0w (by omega) (p:=⟨2,r.Id,0,0,[],[]⟩) (now:=now) hf
    have hr:=hf.ripes
    rw[h] at hr
    simp only[List.length_cons] at hr
    obtain ⟨y,k1,k2⟩:=zag3 (now:=now) (z:=z) rs { (zvk ⟨2,r.Id,0,0,[],[]⟩ now c).2 with Ripes:=rs } rfl ⟨hfit.set,hfit.pend,by simp only[];omega,hfit.said,hfit.due,hfit.ps⟩
    refine ⟨y,?_,k2⟩
    rw[← k1,zbq,zbq]
    refine zab ?_
    simp only[zdg,h,List.getD_cons_zero,hlen,hsay,Option.isSome_some,yy2,z9x]
    rw[Tr.rg (by intro _;exact ⟨⟨by omega,by omega⟩,trivial⟩),Tr.rt (by simp[hd]),Tr.rg (by omega),Tr.rg (by trivial),Tr.rf (by simpa using hs),Tr.rg (by omega),Tr.rl]
    simp only[List.drop_succ_cons,List.drop_zero,yy4,Nat.add_sub_cancel,List.take_length]
   ·rw[if_pos hs]
    refine ⟨.inl (0,c),?_,rfl⟩
    rw[zbq]
    refine zba ?_
    simp only[zdg,h,List.getD_cons_zero,hlen,hsay,Option.isSome_some,yy2]
    rw[Tr.rg (by intro _;exact ⟨⟨by omega,by omega⟩,trivial⟩),Tr.rt (by simp[hd]),Tr.rg (by omega),Tr.rg (by trivial),Tr.rt (by simpa using hs),Tr.rl]
  ·rw[if_neg hd]
   refine ⟨.inr (z,c),?_,rfl⟩
   rw[zbq]
   refine zba ?_
   simp only[zdg,h,List.getD_cons_zero,hlen]
   rw[Tr.rg (by intro _;exact ⟨⟨by omega,by omega⟩,trivial⟩),Tr.rf (by simp[hd]),Tr.rl]
theorem zdb {c:zb} (h:zkq c=true):zajg c∧zeg c.Out∧zv 1 (-1) c.Set=true∧c.Ripes.all znm=true∧c.Pending.all zlg=true:=by
 unfold zkq at h
 simp only[yy7,decide_eq_true_eq] at h
 exact ⟨h.1.1.1.1,h.1.1.1.2,h.1.1.2,h.1.2,h.2⟩
theorem zbhv {now:Int} {c:zb} (h:FitC 140737488351232 c) (hr:(c.Ripes.length+c.Pending.length)*16≤140737488355328):z9 c now=some (endC now c):=by
 have e1:=h.set;have e2:=h.pend;have e3:=h.ripes
 rw[z9,zxd,Tr.rb (z0k h)]
 unfold endC
 cases hg:zkq c with
 | false=>rw[Tr.rt (by rfl),Tr.rl,if_pos rfl]
 | true =>
  obtain ⟨_,_,_,_,hp⟩:=zdb hg
  rw[Tr.rf (by rfl),if_neg (by simp)]
  cases ho:c.On with
  | false=>rw[Tr.rt (by rfl),Tr.rl,if_pos rfl]
  | true =>
   rw[Tr.rf (by rfl),if_neg (by simp)]
   by_cases ht:now < c.Time∨1099511627776 < now
   ·rw[if_pos ht,Tr.rt (by simpa using ht),Tr.rl]
   ·rw[if_neg ht,Tr.rf (by simp;omega),Tr.rb (zare (by omega))]
    rw[Tr.rb (zbhu (by omega) hp (by simp only[];omega) h.ps (by simp only[];omega))]
    simp only[]
    rw[Tr.rb (za32 _ _ rfl),Tr.rl]<;>first | rw[ho] | rfl
theorem zark (a d:List Power):(z2y a d).length≤6:=z2z _
theorem za0x {now:Int} {l:List Packet}:∀ {c:zb},l≠[]→(l.foldl (zsh now) c).Set.length≤6:=by
 induction l with
 | nil=>intro c h;exact absurd rfl h
 | cons p l ih =>
  intro c _
  rw[List.foldl_cons]
  cases l with
  | nil =>
   rw[List.foldl_nil,z0l]
   show (z2y c.Set p.Set).length≤6
   exact zark _ _
  | cons q l=>exact ih (c:=zsh now c p) (by simp)
theorem zxw {now:Int}:∀ (l:List Packet) (c:zb),(l.foldl (zsh now) c).Ripes.length=c.Ripes.length+l.length∧(l.foldl (zsh now) c).Out=c.Out∧(l.foldl (zsh now) c).On=c.On∧(l.foldl (zsh now) c).Gone=c.Gone∧(l.foldl (zsh now) c).Height=c.Height∧(l.foldl (zsh now) c).Time=c.Time
 | [],c=>⟨rfl,rfl,rfl,rfl,rfl,rfl⟩
 | p::l,c=>by
  rw[List.foldl_cons]
  obtain ⟨h1,h2,h3,h4,h5,h6⟩:=zxw l (zsh now c p)
  rw[z0l] at h1 h2 h3 h4 h5 h6 ⊢
  refine ⟨?_,h2,h3,h4,h5,h6⟩
  rw[h1]
  show (c.Ripes++[(⟨p.Id,i64.wrap (now+15)⟩:Ripe)]).length+l.length=_
  rw[yy6,yy5,List.length_cons]
  omega
theorem zalh {now:Int} {c:zb} {R:Nat} (hR:6416≤R) {l:List Packet} (h:FitC R c) (hr:(c.Ripes.length+l.length)*16≤R):FitC R { l.foldl (zsh now) c with Pending:=[] }:=by
 obtain ⟨h1,h2,_⟩:=zxw (now:=now) l c
 refine ⟨?_,by simp,?_,?_,?_,fun p hp=>by cases hp⟩
 ·by_cases hl:l=[]
  ·subst hl;exact h.set
  ·have:=za0x (now:=now) (c:=c) hl
   simp only[];omega
 ·simp only[h1];omega
 ·simp only[h2];exact h.said
 ·simp only[h2];exact h.due
theorem zaus {now:Int} {c:zb} (h:FitC 140737488351232 c) (hr:(c.Ripes.length+c.Pending.length)*16≤140737488351232):zag c now=some (endC now c):=by
 have e1:=h.set;have e2:=h.pend;have e3:=h.ripes
 rw[zag,zp1,Tr.rb (zqq h)]
 unfold endC
 cases hg:zkq c with
 | false=>rw[Tr.rt (by rfl),Tr.rl,if_pos rfl]
 | true =>
  obtain ⟨_,_,_,_,hp⟩:=zdb hg
  rw[Tr.rf (by rfl),if_neg (by simp)]
  cases ho:c.On with
  | false=>rw[Tr.rt (by rfl),Tr.rl,if_pos rfl]
  | true =>
   rw[Tr.rf (by rfl),if_neg (by simp)]
   by_cases ht:now < c.Time∨1099511627776 < now
   ·rw[if_pos ht,Tr.rt (by simpa using ht),Tr.rl]
   ·rw[if_neg ht,Tr.rf (by simp;omega),Tr.rb (zag1 h)]
    rw[Tr.rb (zarj (by omega) hp (by simp only[];omega) h.ps (by simp only[];omega))]
    simp only[]
    have hf:FitC 140737488351232 { c with Height:=i64.wrap (c.Height+1),Time:=now }:=⟨h.set,h.pend,h.ripes,h.said,h.due,h.ps⟩
    obtain ⟨r,k1,k2⟩:=zag3 (now:=now) (z:=⟨false,false,0,0,0,[],[],[],⟨false,false,false,false,false,false⟩,⟨[],[],0,false⟩,⟨0,0,0,0⟩⟩) _ _ rfl (zalh (now:=now) (by omega) hf (l:=c.Pending) hr)
    cases r with
    | inl y =>
     refine (Tr.ri k1).trans ?_
     rw[Tr.rl,k2]<;>first | rw[ho] | rfl
    | inr y =>
     refine (Tr.rj k1).trans ?_
     rw[Tr.rl,k2]<;>first | rw[ho] | rfl
theorem zag4:∀ {l:List Power} {p v:Int},zv 1 p l=true→zc8 l v=0∨1≤zc8 l v
 | [],_,_,_=>.inl rfl
 | a::l,p,v,h=>by
  rw[zv] at h
  simp only[yy7,decide_eq_true_eq] at h
  unfold zc8
  split
  ·exact .inr h.1.1.2
  ·exact zag4 h.2
theorem zapn {l:List Power} {v:Int} (h:0≤v∧v < 6):(rowA l).get v=zc8 l v:=by
 obtain rfl | rfl | rfl | rfl | rfl | rfl:v=0∨v=1∨v=2∨v=3∨v=4∨v=5:=by omega
 all_goals rfl
def z6j (c:zb) (v now:Int):zb×Int :=
 if zkq c=false∨now < 0∨1099511627776 < now then (c,2) else if c.On=false∨v < 0∨5 < v∨zc8 c.Set v=0 then (c,4) else if c.Flags.get v=true then (c,5)
 else if (zvk ⟨3,c.Id,v,zc8 c.Set v,[],[]⟩ now c).1≠0 then (c,(zvk ⟨3,c.Id,v,zc8 c.Set v,[],[]⟩ now c).1)
 else ({ (zvk ⟨3,c.Id,v,zc8 c.Set v,[],[]⟩ now c).2 with Flags:=(zvk ⟨3,c.Id,v,zc8 c.Set v,[],[]⟩ now c).2.Flags.set v true },0)
theorem za7u {c:zb} {v now:Int} (h:FitC 140737488351232 c):zf0 c v now=some (z6j c v now):=by
 have e1:=h.set
 have hsay:=fun n=>zapm (p:=⟨3,c.Id,v,n,[],[]⟩) (now:=now) (c:=c) (by simp) (by simp)
 rw[zf0,zug,Tr.rb (z0k h)]
 simp only[zapj (l:=c.Set) (v:=v) (by omega),hsay,Option.isSome_some,yy2]
 unfold z6j
 by_cases h1:zkq c=false∨now < 0∨1099511627776 < now
 ·rw[if_pos h1,Tr.rt (by simpa[or_assoc] using h1),Tr.rl]
 ·rw[if_neg h1,Tr.rf (by rw[Bool.eq_false_iff];intro k;apply h1;simpa[or_assoc] using k),Tr.rg (by simp)]
  by_cases h2:c.On=false∨v < 0∨5 < v∨zc8 c.Set v=0
  ·rw[if_pos h2,Tr.rt (by
    simp only[Bool.or_eq_true,Bool.not_eq_true',decide_eq_true_eq,beq_iff_eq]
    rcases h2 with h2 | h2 | h2 | h2
    ·exact .inl (.inl (.inl h2))
    ·exact .inl (.inl (.inr h2))
    ·exact .inl (.inr (by omega))
    ·exact .inr h2),Tr.rl]
  ·simp only[not_or] at h2
   rw[if_neg (by simp only[not_or];exact h2),Tr.rf (by
    simp only[Bool.or_eq_false_iff,Bool.not_eq_false',yy8,beq_eq_false_iff_ne]
    exact ⟨⟨⟨by simpa using h2.1,h2.2.1⟩,by omega⟩,h2.2.2.2⟩),Tr.rg (by omega)]
   by_cases h3:c.Flags.get v=true
   ·rw[if_pos h3,Tr.rt h3,Tr.rl]
   ·rw[if_neg h3,Tr.rf (by simpa using h3),Tr.rg (by trivial),Tr.rg (by trivial)]
    by_cases h4:(zvk ⟨3,c.Id,v,zc8 c.Set v,[],[]⟩ now c).1=0
    ·rw[if_neg (by simpa using h4),Tr.rf (by simpa using h4),Tr.rg (by omega),Tr.rl]
    ·rw[if_pos h4,Tr.rt (by simpa using h4),Tr.rl,zabx h4]
theorem zarl {c:zb} {v now:Int} (h:FitC 140737488351232 c):zk9 c v now=some (z6j c v now):=by
 have e1:=h.set
 have hsay:=fun n=>z8h (p:=⟨3,c.Id,v,n,[],[]⟩) (now:=now) (c:=c) h (by simp) (by simp)
 rw[zk9,z2p,Tr.rb (zqq h)]
 simp only[zakx (a:=c.Set) (by omega),hsay,Option.isSome_some,yy2]
 unfold z6j
 by_cases h1:zkq c=false∨now < 0∨1099511627776 < now
 ·rw[if_pos h1,Tr.rt (by simpa[or_assoc] using h1),Tr.rl]
 ·rw[if_neg h1,Tr.rf (by rw[Bool.eq_false_iff];intro k;apply h1;simpa[or_assoc] using k),Tr.rg (by simp),Tr.rg (by
   intro k
   simp only[Bool.or_eq_false_iff,yy8] at k
   exact ⟨by omega,trivial⟩)]
  by_cases hv:0≤v∧v < 6
  ·rw[zapn hv]
   by_cases h2:c.On=false∨v < 0∨5 < v∨zc8 c.Set v=0
   ·rw[if_pos h2,Tr.rt (by
     simp only[Bool.or_eq_true,Bool.not_eq_true',decide_eq_true_eq,beq_iff_eq]
     rcases h2 with h2 | h2 | h2 | h2
     ·exact .inl (.inl (.inl h2))
     ·exact .inl (.inl (.inr h2))
     ·exact .inl (.inr (by omega))
     ·exact .inr h2),Tr.rl]
   ·simp only[not_or] at h2
    rw[if_neg (by simp only[not_or];exact h2),Tr.rf (by
     simp only[Bool.or_eq_false_iff,Bool.not_eq_false',yy8,beq_eq_false_iff_ne]
     exact ⟨⟨⟨by simpa using h2.1,h2.2.1⟩,by omega⟩,h2.2.2.2⟩),Tr.rg (by omega)]
    by_cases h3:c.Flags.get v=true
    ·rw[if_pos h3,Tr.rt h3,Tr.rl]
    ·rw[if_neg h3,Tr.rf (by simpa using h3),Tr.rg (by trivial),Tr.rg (by omega),Tr.rg (by trivial)]
     by_cases h4:(zvk ⟨3,c.Id,v,zc8 c.Set v,[],[]⟩ now c).1=0
     ·rw[if_neg (by simpa using h4),Tr.rt (by simpa using h4),Tr.rg (by omega),Tr.rl,h4]
     ·rw[if_pos h4,Tr.rf (by simpa using h4),Tr.rl,zabx h4]
  ·rw[if_pos (.inr (by omega)),Tr.rt (by
    simp only[Bool.or_eq_true,Bool.not_eq_true',decide_eq_true_eq,beq_iff_eq]
    by_cases h5:v < 0
    ·exact .inl (.inl (.inr h5))
    ·exact .inl (.inr (by omega))),Tr.rl]
def maxC (c:zb) (v:Int):Int:=if zc8 c.Set v=0 then 1 else zc8 c.Set v
def zqb (c:zb) (v id now:Int):zb×Int :=
 if zkq c=false∨now < 0∨1099511627776 < now then (c,2) else if c.On=false∨v < 0∨5 < v then (c,4) else if id < 1∨c.Id < id then (c,2)
 else ((zvk ⟨4,id,v,maxC c v,[],[]⟩ now c).2,(zvk ⟨4,id,v,maxC c v,[],[]⟩ now c).1)
theorem zaut {c:zb} {v id now:Int} (h:FitC 140737488351232 c):zej c v id now=some (zqb c v id now):=by
 have e1:=h.set
 rw[zej,zpq,Tr.rb (z0k h)]
 unfold zqb
 by_cases h1:zkq c=false∨now < 0∨1099511627776 < now
 ·rw[if_pos h1,Tr.rt (by simpa[or_assoc] using h1),Tr.rl]
 ·rw[if_neg h1,Tr.rf (by rw[Bool.eq_false_iff];intro k;apply h1;simpa[or_assoc] using k)]
  by_cases h2:c.On=false∨v < 0∨5 < v
  ·rw[if_pos h2,Tr.rt (by
    simp only[Bool.or_eq_true,Bool.not_eq_true',decide_eq_true_eq]
    rcases h2 with h2 | h2 | h2
    ·exact .inl (.inl h2)
    ·exact .inl (.inr h2)
    ·exact .inr (by omega)),Tr.rl]
  ·simp only[not_or] at h2
   rw[if_neg (by simp only[not_or];exact h2),Tr.rf (by
    simp only[Bool.or_eq_false_iff,Bool.not_eq_false',yy8]
    exact ⟨⟨by simpa using h2.1,h2.2.1⟩,by omega⟩)]
   by_cases h3:id < 1∨c.Id < id
   ·rw[if_pos h3,Tr.rt (by simpa using h3),Tr.rl]
   ·have hg:zkq c=true:=by simp only[not_or] at h1;simpa using h1.1
    have hf:=zag4 (v:=v) (zdb hg).2.2.1
    have hm:(if zc8 c.Set v > 1 then zc8 c.Set v else 1)=maxC c v:=by
     unfold maxC
     rcases hf with hf | hf
     ·rw[if_neg (by omega),if_pos hf]
     ·rw[if_neg (show ¬ zc8 c.Set v=0 by omega)]
      split<;>omega
    rw[if_neg h3,Tr.rf (by simp;omega),Tr.rb (zapj (by omega)),hm,Tr.rb (zapm (by simp) (by simp))]
    by_cases h4:(zvk ⟨4,id,v,maxC c v,[],[]⟩ now c).1=0
    ·rw[Tr.rf (by simpa using h4),Tr.rl,h4]
    ·rw[Tr.rt (by simpa using h4),Tr.rl]
theorem zali {c:zb} {v id now:Int} (h:FitC 140737488351232 c):zhg c v id now=some (zqb c v id now):=by
 have e1:=h.set
 rw[zhg,zxl,Tr.rb (zqq h)]
 unfold zqb
 by_cases h1:zkq c=false∨now < 0∨1099511627776 < now
 ·rw[if_pos h1,Tr.rt (by simpa[or_assoc] using h1),Tr.rl]
 ·rw[if_neg h1,Tr.rf (by rw[Bool.eq_false_iff];intro k;apply h1;simpa[or_assoc] using k)]
  by_cases h2:c.On=false∨v < 0∨5 < v
  ·rw[if_pos h2,Tr.rt (by
    simp only[Bool.or_eq_true,Bool.not_eq_true',decide_eq_true_eq]
    rcases h2 with h2 | h2 | h2
    ·exact .inl (.inl h2)
    ·exact .inl (.inr h2)
    ·exact .inr (by omega)),Tr.rl]
  ·simp only[not_or] at h2
   rw[if_neg (by simp only[not_or];exact h2),Tr.rf (by
    simp only[Bool.or_eq_false_iff,Bool.not_eq_false',yy8]
    exact ⟨⟨by simpa using h2.1,h2.2.1⟩,by omega⟩)]
   by_cases h3:id < 1∨c.Id < id
   ·rw[if_pos h3,Tr.rt (by simpa using h3),Tr.rl]
   ·rw[if_neg h3,Tr.rf (by simp;omega),Tr.rb (zakx (by omega)),Tr.rg (by omega),zapn (by omega)]
    by_cases h5:zc8 c.Set v=0
    ·have hm:maxC c v=1:=if_pos h5
     rw[hm,Tr.rt (by simpa using h5),Tr.rb (z8h h (by simp) (by simp)),Tr.rl]
    ·have hm:maxC c v=zc8 c.Set v:=if_neg h5
     rw[hm,Tr.rf (by simpa using h5),Tr.rb (z8h h (by simp) (by simp)),Tr.rl]
def z0m (c:zb):zb:=if c.On=false then c else { c with On:=false,Gone:=true,Out:={ c.Out with Closed:=true } }
theorem zalj {c:zb}:zjw c=some (z0m c):=by
 rw[zjw,zpr]
 unfold z0m
 cases ho:c.On with
 | false=>rw[Tr.rt (by rfl),Tr.rl,if_pos rfl]
 | true=>rw[Tr.rf (by rfl),Tr.rl,if_neg (by simp)]
theorem zalk {c:zb} (h:FitC 140737488351232 c):zbr c=some (z0m c):=by
 rw[zbr,zlo]
 unfold z0m
 cases ho:c.On with
 | false=>rw[Tr.rf rfl,Tr.rl,if_pos rfl]
 | true=>rw[Tr.rt rfl,Tr.rb (zapk h),Tr.rl,if_neg (by simp)]
theorem zann {l:zbs} {s:ByteArray} {u:Int} (h:(sayL l s u).2=0):zeg l∧0≤u∧l.Closed=false∧l.Said.length < 400∧sayL l s u=({ l with Said:=l.Said++[s],Due:=l.Due++[u] },0):=by
 unfold sayL at h ⊢
 by_cases h1:¬ zeg l∨u < 0
 ·rw[if_pos h1] at h;cases h
 ·rw[if_neg h1] at h ⊢
  simp only[not_or,Classical.not_not] at h1
  by_cases h2:l.Closed=true
  ·rw[if_pos h2] at h;cases h
  ·rw[if_neg h2] at h ⊢
   by_cases h3:400≤l.Said.length
   ·rw[if_pos h3] at h;cases h
   ·rw[if_neg h3]
    exact ⟨h1.1,by omega,by simpa using h2,by omega,rfl⟩
theorem za0z {l:zbs} {s:ByteArray} {u:Int} (h1:zeg l) (h2:0≤u) (h3:l.Closed=false) (h4:l.Said.length < 400):sayL l s u=({ l with Said:=l.Said++[s],Due:=l.Due++[u] },0):=by
 unfold sayL
 rw[if_neg (by simp only[not_or,Classical.not_not];exact ⟨h1,by omega⟩),if_neg (by rw[h3];simp),if_neg (by omega)]
theorem zag5 {l:zbs} {s:ByteArray} {u:Int} (h1:zeg l) (h2:0≤u) (h4:l.Said.length < 400):zeg { l with Said:=l.Said++[s],Due:=l.Due++[u] }:=by
 obtain ⟨g1,g2,g3,g4,g5⟩:=h1
 refine ⟨by simp[g1],by simp only[yy6,yy5];omega,g3,by simp only[yy6,yy5];omega,?_⟩
 simp only[List.any_append,g5,Bool.false_or,List.any_cons,List.any_nil,Bool.or_false,yy8]
 omega
theorem zauu {p:Packet} {now:Int} {c:zb} (h:(zvk p now c).1=0):zgt p=0∧(sayL c.Out (txt (z6e p)) (i64.wrap (now+40))).2=0 ∧
  zvk p now c=(0,{ c with Out:={ c.Out with Said:=c.Out.Said++[txt (z6e p)],Due:=c.Out.Due++[i64.wrap (now+40)] } }):=by
 have hg:zgt p=0:=by
  refine Classical.byContradiction fun hn=>?_
  unfold zvk at h
  rw[zanb hn,if_pos hn] at h
  exact hn h
 unfold zvk at h ⊢
 rw[zrf hg,if_neg (by simp)] at h ⊢
 simp only at h ⊢
 by_cases hs:(sayL c.Out (txt (z6e p)) (i64.wrap (now+40))).2=0
 ·rw[if_neg (by simpa using hs),(zann hs).2.2.2.2]
  exact ⟨hg,rfl,rfl⟩
 ·rw[if_pos hs] at h
  exact absurd h hs
theorem za00 {p:Packet} {now:Int} {c:zb} (hg:zgt p=0) (h1:zeg c.Out) (h2:0≤i64.wrap (now+40)) (h3:c.Out.Closed=false) (h4:c.Out.Said.length < 400) :
  zvk p now c=(0,{ c with Out:={ c.Out with Said:=c.Out.Said++[txt (z6e p)],Due:=c.Out.Due++[i64.wrap (now+40)] } }):=by
 unfold zvk
 rw[zrf hg,if_neg (by simp)]
 simp only
 rw[za0z h1 h2 h3 h4,if_neg (by simp)]
theorem zwk {c:zb} (h1:zajg c) (h2:zeg c.Out) (h3:zv 1 (-1) c.Set=true) (h4:c.Ripes.all znm=true) (h5:c.Pending.all zlg=true):zkq c=true:=by
 unfold zkq
 rw[decide_eq_true h1,decide_eq_true h2,h3,h4,h5];rfl
theorem za01 {now:Int} {c:zb} (h1:zkq c=true) (h2:c.On=true) (h3:c.Time≤now) (h4:now≤1099511627776) :
  endC now c=(zrk now (c.Pending.foldl (zsh now) { c with Height:=i64.wrap (c.Height+1),Time:=now }).Ripes { c.Pending.foldl (zsh now) { c with Height:=i64.wrap (c.Height+1),Time:=now } with Pending:=[] },0):=by
 unfold endC
 rw[if_neg (by rw[h1];simp),if_neg (by rw[h2];simp),if_neg (by omega)]
theorem za02 {c:zb} {v now:Int} (h:(z6j c v now).2=0):zkq c=true∧0≤now∧now≤1099511627776∧c.On=true∧0≤v∧v≤5∧zc8 c.Set v≠0∧(zvk ⟨3,c.Id,v,zc8 c.Set v,[],[]⟩ now c).1=0 ∧
  z6j c v now=({ (zvk ⟨3,c.Id,v,zc8 c.Set v,[],[]⟩ now c).2 with Flags:=(zvk ⟨3,c.Id,v,zc8 c.Set v,[],[]⟩ now c).2.Flags.set v true },0):=by
 unfold z6j at h ⊢
 by_cases h1:zkq c=false∨now < 0∨1099511627776 < now
 ·rw[if_pos h1] at h;cases h
 ·rw[if_neg h1] at h ⊢
  by_cases h2:c.On=false∨v < 0∨5 < v∨zc8 c.Set v=0
  ·rw[if_pos h2] at h;cases h
  ·rw[if_neg h2] at h ⊢
   by_cases h3:c.Flags.get v=true
   ·rw[if_pos h3] at h;cases h
   ·rw[if_neg h3] at h ⊢
    by_cases h4:(zvk ⟨3,c.Id,v,zc8 c.Set v,[],[]⟩ now c).1=0
    ·rw[if_neg (by simpa using h4)]
     simp only[not_or] at h1 h2
     exact ⟨by simpa using h1.1,by omega,by omega,by simpa using h2.1,by omega,by omega,h2.2.2.2,h4,rfl⟩
    ·rw[if_pos h4] at h
     exact absurd h h4
theorem zaeb:zeg ⟨[],[],0,false⟩:=⟨rfl,by decide,by decide,by decide,by decide⟩
theorem zauv {id:Int} (h1:1≤id) (h2:id≤1099511627776):zgt ⟨2,id,0,0,[],[]⟩=0:=by
 unfold zgt
 rw[if_neg (by simp),if_neg (by simp;omega),if_neg (by simp),if_neg (by simp[zv]),if_neg (by simp[zad])]
theorem zano {m p q:Int} {l:List Power} (h:zv m q l=true) (hp:p≤q):zv m p l=true:=by
 cases l with
 | nil=>rfl
 | cons a l =>
  simp only[zv,yy7,decide_eq_true_eq] at h ⊢
  exact ⟨⟨⟨⟨by omega,h.1.1.1.2⟩,h.1.1.2⟩,h.1.2⟩,h.2⟩
theorem ztr {m p w n:Int} {s l:List Power} (hs:s=[]∨(s=[⟨w,n⟩]∧m≤n∧n≤1125899906842624)) (hp:p < w) (hw:w≤5) (hl:zv m w l=true):zv m p (s++l)=true:=by
 rcases hs with rfl | ⟨rfl,h1,h2⟩
 ·exact zano hl (by omega)
 ·simp only[List.cons_append,List.nil_append,zv,yy7,decide_eq_true_eq]
  exact ⟨⟨⟨⟨hp,hw⟩,h1⟩,h2⟩,hl⟩
theorem z9y {w n:Int} (h:n≤1125899906842624):z2x w n=[]∨(z2x w n=[⟨w,n⟩]∧(1:Int)≤n∧n≤1125899906842624):=by
 unfold z2x
 by_cases hn:0 < n
 ·rw[if_pos hn];exact .inr ⟨rfl,by omega,h⟩
 ·rw[if_neg hn];exact .inl rfl
theorem za03 {f:Nat→Int} (h:∀ v,f v≤1125899906842624):zv 1 (-1) (zox f)=true:=by
 rw[zaiw]
 exact ztr (z9y (h 0)) (by omega) (by omega) (ztr (z9y (h 1)) (by omega) (by omega) (ztr (z9y (h 2)) (by omega) (by omega) (ztr (z9y (h 3)) (by omega) (by omega)
  (ztr (z9y (h 4)) (by omega) (by omega) (ztr (z9y (h 5)) (by omega) (by omega) rfl)))))
abbrev zhm (L:Links) (c:Int):zbs:=⟨L.Said.get c,L.Due.get c,L.Got.get c,L.Closed.get c⟩
def okLk (p:za) (c:Int):Bool := !(p.Links.On.get c&&p.Links.Gone.get c)&&decide (0≤p.Links.Base.get c)&&decide (p.Links.Base.get c≤p.Height)&&zv 1 (-1) (p.Links.Told.get c)&&decide (zeg (zhm p.Links c))&&zad (-1) (p.Links.Done.get c)
def zvl (p:za) (a:Asked):Bool:=decide (0≤a.C)&&decide (a.C < 2)&&p.Links.On.get a.C&&(zgt a.P==0) && !(a.P.Kind==1)
def zyt (p:za):Prop:=0≤p.Height∧p.Height < 1099511627776∧0≤p.Time∧p.Time≤1099511627776
instance (p:za):Decidable (zyt p):=inferInstanceAs (Decidable (_∧_))
def zau (p:za):Bool:=decide (GoodS p.Stake)&&decide (zyt p)&&zv 1 (-1) p.Set&&okLk p 0&&okLk p 1&&p.Queue.all (zvl p)
structure FitPr (R:Nat) (p:za):Prop where
 waits:p.Stake.Waits.length*64≤R
 set:p.Set.length*16≤R
 told:∀ c,(p.Links.Told.get c).length*16≤R
 done:∀ c,(p.Links.Done.get c).length*8≤R
 said:∀ c,(p.Links.Said.get c).length*16≤R
 due:∀ c,(p.Links.Due.get c).length*8≤R
 queue:p.Queue.length*88≤R
 ps:∀ a,a∈p.Queue→a.P.Set.length*16≤R∧a.P.Done.length*8≤R
theorem FitPr.mono {R S:Nat} {p:za} (h:FitPr R p) (hr:R≤S):FitPr S p :=
 ⟨Nat.le_trans h.waits hr,Nat.le_trans h.set hr,fun c=>Nat.le_trans (h.told c) hr,fun c=>Nat.le_trans (h.done c) hr,fun c=>Nat.le_trans (h.said c) hr,fun c=>Nat.le_trans (h.due c) hr,Nat.le_trans h.queue hr,
  fun a ha=>⟨Nat.le_trans (h.ps a ha).1 hr,Nat.le_trans (h.ps a ha).2 hr⟩⟩
theorem zauw {L:Links} {c:Int} {p:za} {k:Link} {l:List Int} (hp:k.Done=l) (hl:l.length≤9223372036854775807) :
  ∃ r,zui L c l l.length 0 p k=some r∧(match r with | .inl b=>b=false∧zad (-1) l=false | .inr x=>x=(L,c,p)∧zad (-1) l=true):=by
 have:=zjt (F:=fun s:Links×Int×(List Int)×Int×Int×za×Link=>(zjx s.1 s.2.1 s.2.2.1 s.2.2.2.1 s.2.2.2.2.1 s.2.2.2.2.2.1 s.2.2.2.2.2.2).run)
  (fun s=>s.1=L∧s.2.1=c∧s.2.2.1=l∧s.2.2.2.1=l.length∧0≤s.2.2.2.2.1∧s.2.2.2.2.1≤l.length∧s.2.2.2.2.2.1=p∧s.2.2.2.2.2.2=k∧(0 < s.2.2.2.2.1→0≤ztg l s.2.2.2.2.1)) (fun s=>l.length - s.2.2.2.2.1.toNat)
  (fun s r=>match r with | .inl b=>b=false∧zad (ztg l s.2.2.2.2.1) (l.drop s.2.2.2.2.1.toNat)=false | .inr x=>x=(L,c,p)∧zad (ztg l s.2.2.2.2.1) (l.drop s.2.2.2.2.1.toNat)=true) ?_ (L,c,l,(l.length:Int),0,p,k) ⟨rfl,rfl,rfl,rfl,by simp,by simp,rfl,rfl,by simp⟩
 ·exact this
 ·rintro ⟨y0,y1,x0,x1,x2,x3,x4⟩ ⟨g1,g2,h1,h2,h3,h4,h5,g3,h6⟩
  simp only at g1 g2 g3 h1 h2 h3 h4 h5 h6
  rw[g1,g2,g3,h1,h2,h5] at *
  simp only[zjx,hp]
  by_cases hc:x2 < l.length
  ·have hs:=z6 (l:=l) (k:=x2.toNat) (by omega) 0
   rw[Tr.rt (by simpa using hc),Tr.rg ⟨h3,hc⟩,Tr.rg (by
    intro h _
    simp only[decide_eq_true_eq] at h
    rw[zg (x:=x2 - 1) (by omega) (by omega)]
    exact ⟨⟨by omega,by simp only[Sl.len];omega⟩,trivial⟩)]
   rw[hs]
   have hp:(decide (x2 > 0)&&decide (l.getD (i64.wrap (x2 - 1)).toNat 0≥l.getD x2.toNat 0))=(decide (x2 > 0)&&decide (ztg l x2≥l.getD x2.toNat 0)):=by
    by_cases h0:x2 > 0
    ·rw[zg (x:=x2 - 1) (by omega) (by omega)]
     unfold ztg
     rw[if_neg (by omega)]
    ·simp[h0]
   rw[hp]
   generalize hq:l.getD x2.toNat 0=q at *
   by_cases hd:ztg l x2 < q∧q≤5
   ·obtain ⟨d1,d2⟩:=hd
    have hw:i64.wrap (x2+1)=x2+1:=zg (by omega) (by omega)
    have hpv:ztg l (x2+1)=q:=by unfold ztg;rw[if_neg (by omega),show x2+1 - 1=x2 by omega,hq]
    have hq0:0≤q:=by
     by_cases h0:x2 > 0
     ·have:=h6 h0;omega
     ·have:ztg l x2 = -1:=by unfold ztg;rw[if_pos (by omega)]
      omega
    refine .inl ⟨_,by rw[Tr.rf (by simp;omega),Tr.rl,hw],⟨rfl,rfl,rfl,rfl,?_,?_,rfl,rfl,?_⟩,?_,?_⟩
    ·simp only[];omega
    ·simp only[];omega
    ·simp only[];rw[hpv];intro _;omega
    ·simp only[];omega
    ·simp only[]
     rw[hpv,show (x2+1).toNat=x2.toNat+1 by omega]
     intro r hr
     rw[zad,decide_eq_true d1,decide_eq_true d2]
     simpa using hr
   ·refine .inr ⟨_,by rw[Tr.rt (by
     by_cases h0:x2 > 0
     ·have:=h6 h0
      simp[h0];omega
     ·have:ztg l x2 = -1:=by unfold ztg;rw[if_pos (by omega)]
      simp[h0];omega),Tr.rl],?_⟩
    refine ⟨rfl,?_⟩
    rw[zad]
    simp only[Bool.and_eq_false_iff,yy8]
    omega
  ·refine .inr ⟨_,by rw[Tr.rf (by simpa using hc),Tr.rl],?_⟩
   refine ⟨rfl,?_⟩
   rw[List.drop_eq_nil_of_le (by omega)];rfl
theorem zall {L:Links} {c:Int} {p:za} {k:Link} {l:List Int} (hl:l.length≤9223372036854775807) :
  ∃ r,zo4 (-1) L c l l.length 0 p k=some r∧(match r with | .inl b=>b=false∧zad (-1) l=false | .inr x=>x=(L,c,p,k)∧zad (-1) l=true):=by
 have:=zjt (F:=fun s:Int×Links×Int×(List Int)×Int×Int×za×Link=>(zge s.1 s.2.1 s.2.2.1 s.2.2.2.1 s.2.2.2.2.1 s.2.2.2.2.2.1 s.2.2.2.2.2.2.1 s.2.2.2.2.2.2.2).run)
  (fun s=>s.2.1=L∧s.2.2.1=c∧s.2.2.2.1=l∧s.2.2.2.2.1=l.length∧0≤s.2.2.2.2.2.1∧s.2.2.2.2.2.1≤l.length∧s.2.2.2.2.2.2.1=p∧s.2.2.2.2.2.2.2=k) (fun s=>l.length - s.2.2.2.2.2.1.toNat)
  (fun s r=>match r with | .inl b=>b=false∧zad s.1 (l.drop s.2.2.2.2.2.1.toNat)=false | .inr x=>x=(L,c,p,k)∧zad s.1 (l.drop s.2.2.2.2.2.1.toNat)=true) ?_ (-1,L,c,l,(l.length:Int),0,p,k) ⟨rfl,rfl,rfl,rfl,by simp,by simp,rfl,rfl⟩
 ·exact this
 ·rintro ⟨x0,y0,y1,x1,x2,x3,y2,y3⟩ ⟨g1,g2,h1,h2,h3,h4,g3,g4⟩
  simp only at g1 g2 g3 g4 h1 h2 h3 h4
  rw[g1,g2,g3,g4,h1,h2] at *
  simp only[zge]
  by_cases hc:x3 < l.length
  ·have hs:=z6 (l:=l) (k:=x3.toNat) (by omega) 0
   rw[Tr.rt (by simpa using hc),Tr.rg ⟨h3,hc⟩,hs]
   generalize hq:l.getD x3.toNat 0=q at *
   by_cases hd:x0 < q∧q≤5
   ·obtain ⟨d1,d2⟩:=hd
    have hw:i64.wrap (x3+1)=x3+1:=zg (by omega) (by omega)
    refine .inl ⟨_,by rw[Tr.rf (by simp;omega),Tr.rl,hw],⟨rfl,rfl,rfl,rfl,?_,?_,rfl,rfl⟩,?_,?_⟩
    ·simp only[];omega
    ·simp only[];omega
    ·simp only[];omega
    ·simp only[]
     rw[show (x3+1).toNat=x3.toNat+1 by omega]
     intro r hr
     rw[zad,decide_eq_true d1,decide_eq_true d2]
     simpa using hr
   ·refine .inr ⟨_,by rw[Tr.rt (by simp;omega),Tr.rl],?_⟩
    refine ⟨rfl,?_⟩
    rw[zad]
    simp only[Bool.and_eq_false_iff,yy8]
    omega
  ·refine .inr ⟨_,by rw[Tr.rf (by simpa using hc),Tr.rl],?_⟩
   refine ⟨rfl,?_⟩
   rw[List.drop_eq_nil_of_le (by omega)];rfl
theorem zabz {l:List Power} (hl:l.length≤9223372036854775807):zd9 l=some (zv 1 (-1) l):=by
 have:∃ r,zu0 (-1) l l.length 0=some r∧(match r with | .inl b=>b=false∧zv 1 (-1) l=false | .inr _=>zv 1 (-1) l=true):=by
  have:=zjt (F:=fun s:Int×(List Power)×Int×Int=>(zi4 s.1 s.2.1 s.2.2.1 s.2.2.2).run)
   (fun s=>s.2.1=l∧s.2.2.1=l.length∧0≤s.2.2.2∧s.2.2.2≤l.length) (fun s=>l.length - s.2.2.2.toNat)
   (fun s r=>match r with | .inl b=>b=false∧zv 1 s.1 (l.drop s.2.2.2.toNat)=false | .inr x=>zv 1 s.1 (l.drop s.2.2.2.toNat)=true) ?_ (-1,l,(l.length:Int),0) ⟨rfl,rfl,by simp,by simp⟩
  ·exact this
  ·rintro ⟨x0,x1,x2,x3⟩ ⟨h1,h2,h3,h4⟩
   simp only at h1 h2 h3 h4
   rw[h1,h2] at *
   simp only[zi4]
   by_cases hc:x3 < l.length
   ·have hs:=z6 (l:=l) (k:=x3.toNat) (by omega) default
    rw[Tr.rt (by simpa using hc),Tr.rg ⟨h3,hc⟩,hs]
    generalize hq:l.getD x3.toNat default=q at *
    by_cases hd:x0 < q.V∧q.V≤5∧1≤q.N∧q.N≤1125899906842624
    ·obtain ⟨d1,d2,d3,d4⟩:=hd
     have hw:i64.wrap (x3+1)=x3+1:=zg (by omega) (by omega)
     refine .inl ⟨_,by rw[Tr.rf (by simp;omega),Tr.rl,hw],⟨rfl,rfl,?_,?_⟩,?_,?_⟩
     ·simp only[];omega
     ·simp only[];omega
     ·simp only[];omega
     ·simp only[]
      rw[show (x3+1).toNat=x3.toNat+1 by omega]
      intro r hr
      rw[zv,decide_eq_true d1,decide_eq_true d2,decide_eq_true d3,decide_eq_true d4]
      simpa using hr
    ·refine .inr ⟨_,by rw[Tr.rt (by simp;omega),Tr.rl],?_⟩
     refine ⟨rfl,?_⟩
     rw[zv]
     simp only[Bool.and_eq_false_iff,yy8]
     omega
   ·refine .inr ⟨_,by rw[Tr.rf (by simpa using hc),Tr.rl],?_⟩
    rw[List.drop_eq_nil_of_le (by omega)];rfl
 obtain ⟨r,h1,h2⟩:=this
 rw[zd9,zz7]
 cases r with
 | inl b=>rw[Tr.ri h1,Tr.rl,h2.1,h2.2]
 | inr x=>rw[Tr.rj h1,Tr.rl,h2]
theorem za04 {l:List Power} (hl:l.length≤9223372036854775807) :
  ∃ r,zv5 l l l.length 0=some r∧(match r with | .inl b=>b=false∧zv 1 (-1) l=false | .inr x=>zv 1 (-1) l=true):=by
 have:=zjt (F:=fun s:(List Power)×(List Power)×Int×Int=>(zk8 s.1 s.2.1 s.2.2.1 s.2.2.2).run)
  (fun s=>s.1=l∧s.2.1=l∧s.2.2.1=l.length∧0≤s.2.2.2∧s.2.2.2≤l.length ∧ -1≤zj1 l s.2.2.2∧(0 < s.2.2.2→0≤zj1 l s.2.2.2)) (fun s=>l.length - s.2.2.2.toNat)
  (fun s r=>match r with | .inl b=>b=false∧zv 1 (zj1 l s.2.2.2) (l.drop s.2.2.2.toNat)=false | .inr x=>zv 1 (zj1 l s.2.2.2) (l.drop s.2.2.2.toNat)=true) ?_ (l,l,(l.length:Int),0) ⟨rfl,rfl,rfl,by simp,by simp,by simp[zj1],by simp⟩
 ·exact this
 ·rintro ⟨y0,x0,x1,x2⟩ ⟨g1,h1,h2,h3,h4,h6,h7⟩
  simp only at g1 h1 h2 h3 h4 h6 h7
  rw[g1,h1,h2] at *
  simp only[zk8]
  by_cases hc:x2 < l.length
  ·have hs:=z6 (l:=l) (k:=x2.toNat) (by omega) default
   rw[Tr.rt (by simpa using hc),Tr.rg ⟨h3,hc⟩,Tr.rg (by
    intro h _
    simp only[decide_eq_true_eq] at h
    rw[zg (x:=x2 - 1) (by omega) (by omega)]
    exact ⟨⟨by omega,by simp only[Sl.len];omega⟩,trivial⟩)]
   rw[hs]
   have hp:(decide (x2 > 0)&&decide ((l.getD (i64.wrap (x2 - 1)).toNat default).V≥(l.getD x2.toNat default).V))=(decide (x2 > 0)&&decide (zj1 l x2≥(l.getD x2.toNat default).V)):=by
    by_cases h0:x2 > 0
    ·rw[zg (x:=x2 - 1) (by omega) (by omega)]
     unfold zj1
     rw[if_neg (by omega)]
    ·simp[h0]
   rw[hp]
   generalize hq:l.getD x2.toNat default=q at *
   by_cases hd:zj1 l x2 < q.V∧q.V≤5∧1≤q.N∧q.N≤1125899906842624
   ·obtain ⟨d1,d2,d3,d4⟩:=hd
    have hw:i64.wrap (x2+1)=x2+1:=zg (by omega) (by omega)
    have hpv:zj1 l (x2+1)=q.V:=by unfold zj1;rw[if_neg (by omega),show x2+1 - 1=x2 by omega,hq]
    refine .inl ⟨_,by rw[Tr.rf (by simp;omega),Tr.rl,hw],⟨rfl,rfl,rfl,?_,?_,?_,?_⟩,?_,?_⟩
    ·simp only[];omega
    ·simp only[];omega
    ·simp only[];rw[hpv];omega
    ·simp only[];rw[hpv];intro _;omega
    ·simp only[];omega
    ·simp only[]
     rw[hpv,show (x2+1).toNat=x2.toNat+1 by omega]
     intro r hr
     rw[zv,decide_eq_true d1,decide_eq_true d2,decide_eq_true d3,decide_eq_true d4]
     simpa using hr
   ·refine .inr ⟨_,by rw[Tr.rt (by
     by_cases h0:x2 > 0
     ·have:=h7 h0
      simp[h0];omega
     ·have:zj1 l x2 = -1:=by unfold zj1;rw[if_pos (by omega)]
      simp[h0];omega),Tr.rl],?_⟩
    refine ⟨rfl,?_⟩
    rw[zv]
    simp only[Bool.and_eq_false_iff,yy8]
    omega
  ·refine .inr ⟨_,by rw[Tr.rf (by simpa using hc),Tr.rl],?_⟩
   rw[List.drop_eq_nil_of_le (by omega)];rfl
theorem z3r {l:List Power} (hl:l.length≤9223372036854775807):zfk l=some (zv 1 (-1) l):=by
 obtain ⟨r,h1,h2⟩:=za04 hl
 rw[zfk,zxf]
 cases r with
 | inl b=>rw[Tr.ri h1,Tr.rl,h2.1,h2.2]
 | inr x=>rw[Tr.rj h1,Tr.rl,h2]
theorem zbhw {p:za} {a:Asked} (h:a.P.Set.length*16≤140737488351232∧a.P.Done.length*8≤140737488351232):zoe a p=some (!zvl p a,p):=by
 rw[zoe,zps,Tr.rg (by
  intro h0
  simp only[Bool.or_eq_false_iff,yy8] at h0
  exact ⟨⟨by omega,by omega⟩,trivial⟩),Tr.rg (fun _=>⟨by rw[z77 h.1 h.2];rfl,trivial⟩),Tr.rl,z77 h.1 h.2]
 congr 2
 unfold zvl
 simp only[yy2]
 have e1:decide (a.C < 0) = !decide (0≤a.C):=by rw[← decide_not];congr 1;exact propext ⟨fun h=>by omega,fun h=>by omega⟩
 have e2:decide (a.C≥2) = !decide (a.C < 2):=by rw[← decide_not];congr 1;exact propext ⟨fun h=>by omega,fun h=>by omega⟩
 rw[e1,e2]
 simp only[Bool.not_and,Bool.not_not]
 rfl
theorem za7v {l:List Asked} {p:za} (hl:l.length≤9223372036854775807) (hp:∀ a,a∈l→a.P.Set.length*16≤140737488351232∧a.P.Done.length*8≤140737488351232) :
  zdo l p=some (!l.all (zvl p),p):=by
 obtain ⟨r,h1,h2⟩:=zgg (F:=fun s:(List Asked)×Int×Int×za=>(zas s.1 s.2.1 s.2.2.1 s.2.2.2).run) l.length
  (fun i (_:Unit)=>(l,(l.length:Int),(i:Int),p)) (fun i _=>True) (fun i _ r=>match r with | .inl k=>(0≤k.1∧k.2=p)∧(l.drop i).all (zvl p)=false | .inr q=>q=p∧(l.drop i).all (zvl p)=true) (by
   intro t _
   refine ⟨.inr p,?_,rfl,?_⟩
   ·simp only[zas];rw[Tr.rf (by simp),Tr.rl]
   ·rw[List.drop_length];rfl) (by
   intro i t hi _
   have hs:=z6 (l:=l) (k:=i) hi default
   have hm:=zbk (l:=l) (k:=i) hi default
   simp only[zas,yy4]
   rw[Tr.rt (by simpa using hi),Tr.rg ⟨by omega,by show (i:Int) < (l.length:Nat);omega⟩,Tr.rb (zbhw (hp _ hm)),hs]
   simp only[List.all_cons]
   obtain ⟨b,hb⟩:∃ b,b=zvl p (l.getD i default):=⟨_,rfl⟩
   rw[← hb]
   cases b with
   | true =>
    refine .inl ⟨(),?_,trivial,?_⟩
    ·rw[Tr.rf (show (!true)=false from rfl),Tr.rl,zl (by omega)]
    ·intro r hr
     cases r with
     | inl x=>exact ⟨hr.1,by rw[hr.2];rfl⟩
     | inr x=>rw[Bool.true_and];exact hr
   | false =>
    refine .inr ⟨.inl (i,p),?_,⟨by simp only[];omega,rfl⟩,by rfl⟩
    rw[Tr.rt (show (!false)=true from rfl),Tr.rl]) 0 () (by omega) trivial
 have h1:zfq l l.length 0 p=some r:=h1
 rw[zdo,zdu]
 cases r with
 | inl k =>
  simp only[List.drop_zero] at h2
  rw[Tr.rb (v:=k) (by rw[zdt,zb2,Tr.ri h1,Tr.rl]),Tr.rl,h2.2,h2.1.2]
  simp[h2.1.1]
 | inr k =>
  simp only[List.drop_zero] at h2
  rw[Tr.rb (v:=(-1,k)) (by rw[zdt,zb2,Tr.rj h1,Tr.rl]),Tr.rl,h2.2,h2.1]
  rfl
theorem zbhx (x y b c d e:Bool):(((((x&&y) || !b) || !c) || !d) || !e) = !(!(x&&y)&&b&&c&&d&&e):=by
 cases x<;>cases y<;>cases b<;>cases c<;>cases d<;>cases e<;>rfl
theorem zalm {p:za} (hf:FitPr 140737488351232 p) {c:Nat} (hc:c < 2) :
  (zek p.Links c p).run=some (if okLk p c=true then .inl (p.Links,((c+1:Nat):Int),p) else .inr (.inl false)):=by
 simp only[zek]
 have ht:=hf.told c
 have hd:=hf.done c
 rw[Tr.rt (by simp;omega),Tr.rg ⟨by omega,by omega⟩,Tr.rg (fun _=>⟨by rw[z3r (by omega)];rfl,trivial⟩),Tr.rg (fun _=>⟨by rw[z9q];rfl,trivial⟩),z3r (by omega),z9q]
 simp only[yy2]
 have e:((((((p.Links.On.get (c:Int))&&(p.Links.Gone.get (c:Int)))||(decide ((p.Links.Base.get (c:Int)) < 0)))||(decide ((p.Links.Base.get (c:Int)) > p.Height)))||(!zv 1 (-1) (p.Links.Told.get (c:Int))))||(!decide (zeg (zhm p.Links c)))) =
   !(!(p.Links.On.get (c:Int)&&p.Links.Gone.get (c:Int))&&decide (0≤p.Links.Base.get (c:Int))&&decide (p.Links.Base.get (c:Int)≤p.Height)&&zv 1 (-1) (p.Links.Told.get (c:Int))&&decide (zeg (zhm p.Links c))):=by
  have e1:decide (p.Links.Base.get (c:Int) < 0) = !decide (0≤p.Links.Base.get (c:Int)):=by rw[← decide_not];congr 1;exact propext ⟨fun h=>by omega,fun h=>by omega⟩
  have e2:decide (p.Links.Base.get (c:Int) > p.Height) = !decide (p.Links.Base.get (c:Int)≤p.Height):=by rw[← decide_not];congr 1;exact propext ⟨fun h=>by omega,fun h=>by omega⟩
  rw[e1,e2]
  exact zbhx _ _ _ _ _ _
 rw[show zhm p.Links (c:Int)=(⟨p.Links.Said.get (c:Int),p.Links.Due.get (c:Int),p.Links.Got.get (c:Int),p.Links.Closed.get (c:Int)⟩:zbs) from rfl] at e
 rw[e]
 unfold okLk
 rw[show zhm p.Links (c:Int)=(⟨p.Links.Said.get (c:Int),p.Links.Due.get (c:Int),p.Links.Got.get (c:Int),p.Links.Closed.get (c:Int)⟩:zbs) from rfl]
 generalize (!(p.Links.On.get (c:Int)&&p.Links.Gone.get (c:Int))&&decide (0≤p.Links.Base.get (c:Int))&&decide (p.Links.Base.get (c:Int)≤p.Height)&&zv 1 (-1) (p.Links.Told.get (c:Int))&&decide (zeg (⟨p.Links.Said.get (c:Int),p.Links.Due.get (c:Int),p.Links.Got.get (c:Int),p.Links.Closed.get (c:Int)⟩:zbs)))=b
 cases b with
 | false=>rw[Tr.rt (show (!false)=true from rfl),Tr.rl];rfl
 | true =>
  rw[Tr.rf (show (!true)=false from rfl)]
  obtain ⟨r,h1,h2⟩:=zauw (L:=p.Links) (c:=(c:Int)) (p:=p) (k:=⟨p.Links.On.get c,p.Links.Gone.get c,p.Links.Base.get c,p.Links.Told.get c,p.Links.Fresh.get c,p.Links.Done.get c,⟨p.Links.Said.get c,p.Links.Due.get c,p.Links.Got.get c,p.Links.Closed.get c⟩,⟨p.Links.SHeight.get c,p.Links.STime.get c,p.Links.SSaid.get c,p.Links.SGot.get c⟩⟩)
   (l:=p.Links.Done.get c) rfl (by omega)
  cases r with
  | inl b=>rw[Tr.ri h1,Tr.rl,h2.1,h2.2];rfl
  | inr x=>rw[Tr.rj h1,Tr.rl,h2.1,h2.2,zl (by omega)];rfl
theorem znb {p:za} (hf:FitPr 140737488351232 p):zcg p=some (zau p):=by
 have hs:=hf.set
 have hq:=hf.queue
 have loop:zmy p.Links 0 p=some (if okLk p 0=true then (if okLk p 1=true then .inr p else .inl false) else .inl false):=by
  rw[zmy]
  have t0:=zalm hf (c:=0) (by omega)
  have t1:=zalm hf (c:=1) (by omega)
  simp only[Int.ofNat_zero,Nat.zero_add,Int.ofNat_one] at t0 t1
  by_cases h0:okLk p 0=true
  ·rw[if_pos h0] at t0 ⊢
   rw[zab (s':=(p.Links,((1:Nat):Int),p)) t0]
   by_cases h1:okLk p 1=true
   ·rw[if_pos h1] at t1 ⊢
    rw[zab (s':=(p.Links,((2:Nat):Int),p)) t1,zba (r:=.inr p) (by
     show (zek p.Links 2 p).run=_
     simp only[zek]
     rw[Tr.rf (by simp),Tr.rl])]
   ·rw[if_neg h1] at t1 ⊢
    rw[zba (r:=.inl false) t1]
  ·rw[if_neg h0] at t0 ⊢
   rw[zba (r:=.inl false) t0]
 rw[zcg,zuj,Tr.rb (z25 p.Stake),Tr.rg (fun _=>⟨by rw[z3r (by omega)];rfl,trivial⟩),z3r (by omega)]
 simp only[yy2]
 have e:((((((!decide (GoodS p.Stake))||(decide (p.Height < 0)))||(decide (p.Height≥1099511627776)))||(decide (p.Time < 0)))||(decide (p.Time > 1099511627776)))||(!zv 1 (-1) p.Set)) = !(decide (GoodS p.Stake)&&decide (zyt p)&&zv 1 (-1) p.Set):=by
  rw[Bool.eq_iff_iff]
  simp only[Bool.or_eq_true,Bool.not_eq_true',yy8,decide_eq_true_eq,Bool.and_eq_false_iff]
  unfold zyt
  constructor
  ·rintro (((((h | h) | h) | h) | h) | h)
   ·exact .inl (.inl h)
   ·exact .inl (.inr (by omega))
   ·exact .inl (.inr (by omega))
   ·exact .inl (.inr (by omega))
   ·exact .inl (.inr (by omega))
   ·exact .inr h
  ·rintro ((h | h) | h)
   ·exact .inl (.inl (.inl (.inl (.inl h))))
   ·rcases (show p.Height < 0∨p.Height≥1099511627776∨p.Time < 0∨p.Time > 1099511627776 by omega) with k | k | k | k
    ·exact .inl (.inl (.inl (.inl (.inr k))))
    ·exact .inl (.inl (.inl (.inr k)))
    ·exact .inl (.inl (.inr k))
    ·exact .inl (.inr k)
   ·exact .inr h
 rw[e]
 unfold zau
 generalize (decide (GoodS p.Stake)&&decide (zyt p)&&zv 1 (-1) p.Set)=b
 cases b with
 | false=>rw[Tr.rt (show (!false)=true from rfl),Tr.rl];rfl
 | true =>
  rw[Tr.rf (show (!true)=false from rfl)]
  by_cases h0:okLk p 0=true
  ·rw[if_pos h0] at loop
   by_cases h1:okLk p 1=true
   ·rw[if_pos h1] at loop
    rw[Tr.rj loop,Tr.rb (za7v (by omega) hf.ps),Tr.rl,h0,h1]
    simp
   ·rw[if_neg h1] at loop
    rw[Tr.ri loop,Tr.rl,h0,Bool.eq_false_iff.2 h1]
    rfl
  ·rw[if_neg h0] at loop
   rw[Tr.ri loop,Tr.rl,Bool.eq_false_iff.2 h0]
   rfl
theorem zaav {p:za} (hf:FitPr 140737488351232 p) {c:Nat} (hc:c < 2) :
  (zcr p.Links c p).run=some (if okLk p c=true then .inl (p.Links,((c+1:Nat):Int),p) else .inr (.inl false)):=by
 simp only[zcr]
 have ht:=hf.told c
 have hd:=hf.done c
 have hu:=hf.due c
 have hlu:(zhm p.Links c).Due.length≤9223372036854775807:=by show (p.Links.Due.get (c:Int)).length≤_;omega
 rw[Tr.rt (by simp;omega),Tr.rg ⟨by omega,by omega⟩]
 obtain ⟨r,h1,h2⟩:=zall (L:=p.Links) (c:=(c:Int)) (p:=p) (k:=⟨p.Links.On.get c,p.Links.Gone.get c,p.Links.Base.get c,p.Links.Told.get c,p.Links.Fresh.get c,p.Links.Done.get c,⟨p.Links.Said.get c,p.Links.Due.get c,p.Links.Got.get c,p.Links.Closed.get c⟩,⟨p.Links.SHeight.get c,p.Links.STime.get c,p.Links.SSaid.get c,p.Links.SGot.get c⟩⟩)
  (l:=p.Links.Done.get c) (by omega)
 unfold okLk
 cases r with
 | inl b =>
  rw[Tr.ri h1,Tr.rl,h2.1,h2.2,Bool.and_false];rfl
 | inr x =>
  rw[Tr.rj h1,h2.1,h2.2,Bool.and_true]
  simp only[]
  rw[Tr.rg (fun _=>⟨by rw[zabz (by omega)];rfl,trivial⟩),Tr.rg (fun _=>⟨by rw[zto hlu];rfl,trivial⟩),zabz (by omega),zto hlu]
  simp only[yy2]
  have e:((((((p.Links.On.get (c:Int))&&(p.Links.Gone.get (c:Int)))||(decide ((p.Links.Base.get (c:Int)) < 0)))||(decide ((p.Links.Base.get (c:Int)) > p.Height)))||(!zv 1 (-1) (p.Links.Told.get (c:Int))))||(!decide (zeg (⟨p.Links.Said.get (c:Int),p.Links.Due.get (c:Int),p.Links.Got.get (c:Int),p.Links.Closed.get (c:Int)⟩:zbs)))) =
    !(!(p.Links.On.get (c:Int)&&p.Links.Gone.get (c:Int))&&decide (0≤p.Links.Base.get (c:Int))&&decide (p.Links.Base.get (c:Int)≤p.Height)&&zv 1 (-1) (p.Links.Told.get (c:Int))&&decide (zeg (zhm p.Links c))):=by
   have e1:decide (p.Links.Base.get (c:Int) < 0) = !decide (0≤p.Links.Base.get (c:Int)):=by rw[← decide_not];congr 1;exact propext ⟨fun h=>by omega,fun h=>by omega⟩
   have e2:decide (p.Links.Base.get (c:Int) > p.Height) = !decide (p.Links.Base.get (c:Int)≤p.Height):=by rw[← decide_not];congr 1;exact propext ⟨fun h=>by omega,fun h=>by omega⟩
   rw[e1,e2]
   exact zbhx _ _ _ _ _ _
  rw[e]
  generalize (!(p.Links.On.get (c:Int)&&p.Links.Gone.get (c:Int))&&decide (0≤p.Links.Base.get (c:Int))&&decide (p.Links.Base.get (c:Int)≤p.Height)&&zv 1 (-1) (p.Links.Told.get (c:Int))&&decide (zeg (zhm p.Links (c:Int))))=b
  cases b with
  | false=>rw[Tr.rt (show (!false)=true from rfl),Tr.rl];rfl
  | true=>rw[Tr.rf (show (!true)=false from rfl),Tr.rl,zl (by omega)];rfl
theorem zarm {l:List Asked} {p:za} (hl:l.length≤9223372036854775807) (hp:∀ a,a∈l→a.P.Set.length*16≤140737488351232∧a.P.Done.length*8≤140737488351232) :
  zji l l.length 0 p=some (if l.all (zvl p)=true then .inr () else .inl false):=by
 have test:∀ a:Asked,a.P.Set.length*16≤140737488351232∧a.P.Done.length*8≤140737488351232→(((((decide (a.C < 0))||(decide (a.C > 1)))||(!(p.Links.On.get a.C)))||((a.P.Kind)==1))||(((za2 a.P).getD default) != 0)) = !zvl p a:=by
  intro a ha
  rw[zna ha.1 ha.2,yy2]
  unfold zvl
  have e1:decide (a.C < 0) = !decide (0≤a.C):=by rw[← decide_not];congr 1;exact propext ⟨fun h=>by omega,fun h=>by omega⟩
  have e2:decide (a.C > 1) = !decide (a.C < 2):=by rw[← decide_not];congr 1;exact propext ⟨fun h=>by omega,fun h=>by omega⟩
  rw[e1,e2]
  simp only[Bool.not_and,Bool.not_not,Bool.or_assoc]
  congr 3
  rw[Bool.or_comm];rfl
 have z96:∀ (i:Nat) (t:Tr (((List Asked)×Int×Int×za)⊕((Bool)⊕(Unit)))),i < l.length→(Tr.guard ((((decide (((l.getD i default).C) < 0))||(decide (((l.getD i default).C) > 1)))=false→((0:Int)≤((l.getD i default).C)∧(((l.getD i default).C):Int) < 2)∧True))
   (Tr.guard ((((((decide (((l.getD i default).C) < 0))||(decide (((l.getD i default).C) > 1)))||(!(p.Links.On.get ((l.getD i default).C))))||((((l.getD i default).P).Kind)==1))=false→((za2 ((l.getD i default).P)).isSome=true)∧True)) t)).run=t.run:=by
  intro i t hi
  obtain ⟨p1,p2⟩:=hp _ (zbk (l:=l) (k:=i) hi default)
  rw[Tr.rg (by
   intro h0
   simp only[Bool.or_eq_false_iff,yy8] at h0
   exact ⟨⟨by omega,by omega⟩,trivial⟩),Tr.rg (fun _=>⟨by rw[zna p1 p2];rfl,trivial⟩)]
 rw[zji]
 have:=zwh (F:=fun s:(List Asked)×Int×Int×za=>(zcs s.1 s.2.1 s.2.2.1 s.2.2.2).run) l default (fun i=>(l,(l.length:Int),(i:Int),p)) (zvl p) false () (by
   simp only[zcs];rw[Tr.rf (by simp),Tr.rl]) (by
   intro i hi h
   simp only[zcs,yy4]
   rw[Tr.rt (by simpa using hi),Tr.rg ⟨by omega,by show (i:Int) < (l.length:Nat);omega⟩,z96 i _ hi,test _ (hp _ (zbk (l:=l) (k:=i) hi default)),h,Tr.rf (show (!true)=false from rfl),Tr.rl,zl (by omega)]) (by
   intro i hi h
   simp only[zcs,yy4]
   rw[Tr.rt (by simpa using hi),Tr.rg ⟨by omega,by show (i:Int) < (l.length:Nat);omega⟩,z96 i _ hi,test _ (hp _ (zbk (l:=l) (k:=i) hi default)),h,Tr.rt (show (!false)=true from rfl),Tr.rl])
 exact this
theorem zgp {p:za} (hf:FitPr 140737488351232 p):zak p=some (zau p):=by
 have hs:=hf.set
 have hq:=hf.queue
 have loop:zjh p.Links 0 p=some (if okLk p 0=true then (if okLk p 1=true then .inr p else .inl false) else .inl false):=by
  rw[zjh]
  have t0:=zaav hf (c:=0) (by omega)
  have t1:=zaav hf (c:=1) (by omega)
  simp only[Int.ofNat_zero,Nat.zero_add,Int.ofNat_one] at t0 t1
  by_cases h0:okLk p 0=true
  ·rw[if_pos h0] at t0 ⊢
   rw[zab (s':=(p.Links,((1:Nat):Int),p)) t0]
   by_cases h1:okLk p 1=true
   ·rw[if_pos h1] at t1 ⊢
    rw[zab (s':=(p.Links,((2:Nat):Int),p)) t1,zba (r:=.inr p) (by
     show (zcr p.Links 2 p).run=_
     simp only[zcr]
     rw[Tr.rf (by simp),Tr.rl])]
   ·rw[if_neg h1] at t1 ⊢
    rw[zba (r:=.inl false) t1]
  ·rw[if_neg h0] at t0 ⊢
   rw[zba (r:=.inl false) t0]
 rw[zak,zor,Tr.rb (zvc p.Stake),Tr.rg (fun _=>⟨by rw[zabz (by omega)];rfl,trivial⟩),zabz (by omega)]
 simp only[yy2]
 have e:((((((!decide (GoodS p.Stake))||(decide (p.Height < 0)))||(decide (p.Height > 1099511627775)))||(decide (p.Time < 0)))||(decide (p.Time > 1099511627776)))||(!zv 1 (-1) p.Set)) = !(decide (GoodS p.Stake)&&decide (zyt p)&&zv 1 (-1) p.Set):=by
  rw[Bool.eq_iff_iff]
  simp only[Bool.or_eq_true,Bool.not_eq_true',yy8,decide_eq_true_eq,Bool.and_eq_false_iff]
  unfold zyt
  constructor
  ·rintro (((((h | h) | h) | h) | h) | h)
   ·exact .inl (.inl h)
   ·exact .inl (.inr (by omega))
   ·exact .inl (.inr (by omega))
   ·exact .inl (.inr (by omega))
   ·exact .inl (.inr (by omega))
   ·exact .inr h
  ·rintro ((h | h) | h)
   ·exact .inl (.inl (.inl (.inl (.inl h))))
   ·rcases (show p.Height < 0∨p.Height > 1099511627775∨p.Time < 0∨p.Time > 1099511627776 by omega) with k | k | k | k
    ·exact .inl (.inl (.inl (.inl (.inr k))))
    ·exact .inl (.inl (.inl (.inr k)))
    ·exact .inl (.inl (.inr k))
    ·exact .inl (.inr k)
   ·exact .inr h
 rw[e]
 unfold zau
 generalize (decide (GoodS p.Stake)&&decide (zyt p)&&zv 1 (-1) p.Set)=b
 cases b with
 | false=>rw[Tr.rt (show (!false)=true from rfl),Tr.rl];rfl
 | true =>
  rw[Tr.rf (show (!true)=false from rfl)]
  by_cases h0:okLk p 0=true
  ·rw[if_pos h0] at loop
   by_cases h1:okLk p 1=true
   ·rw[if_pos h1] at loop
    rw[Tr.rj loop,h0,h1]
    have:=zarm (l:=p.Queue) (p:=p) (by omega) hf.ps
    by_cases h2:p.Queue.all (zvl p)=true
    ·rw[if_pos h2] at this
     rw[Tr.rj this,Tr.rl,h2];rfl
    ·rw[if_neg h2] at this
     rw[Tr.ri this,Tr.rl,Bool.eq_false_iff.2 h2];rfl
   ·rw[if_neg h1] at loop
    rw[Tr.ri loop,Tr.rl,h0,Bool.eq_false_iff.2 h1]
    rfl
  ·rw[if_neg h0] at loop
   rw[Tr.ri loop,Tr.rl,Bool.eq_false_iff.2 h0]
   rfl
theorem zag6 {l:zbs} (h1:l.Said.length*16≤140737488351232) (h2:l.Due.length*8≤140737488351232):zap l=some l:=by
 rw[zap,zrr,Tr.rg (by show (0+l.Said.length)*16≤_;omega),Tr.rg (by show (0+l.Due.length)*8≤_;omega),Tr.rl]
theorem zag7 {l:List Asked} {F:(List Asked)×Int×Int×za×za×(List Asked)→Option (((List Asked)×Int×Int×za×za×(List Asked))⊕(za×za×(List Asked)))} {p q:za} (hl:l.length*88≤140737488351232)
  (hend:∀ t,F (l,(l.length:Int),(l.length:Int),p,q,t)=some (.inr (p,q,t)))
  (hstep:∀ (i:Nat) t,i < l.length→t=l.take i→F (l,(l.length:Int),(i:Int),p,q,t)=some (.inl (l,(l.length:Int),((i+1:Nat):Int),p,q,t++[l.getD i default]))) :
  zbl F (l,(l.length:Int),0,p,q,[])=some (p,q,l):=by
 have:=zb7 (F:=F) l.length (fun i t=>(l,(l.length:Int),(i:Int),p,q,t)) (fun i t=>t=l.take i) (fun i t=>(p,q,l)) (by
   rintro t rfl
   rw[hend,List.take_length]) (by
   rintro i t hi rfl
   refine .inl ⟨l.take i++[l.getD i default],hstep i _ hi rfl,?_,rfl⟩
   rw[yy0,yy3 hi]
   exact (List.take_append_getElem hi)) 0 [] (Nat.zero_le _) rfl
 exact this
theorem zaux {p:za} (hf:FitPr 140737488351232 p):zm7 p=some p:=by
 have hs:=hf.set
 have hq:=hf.queue
 have turn:∀ (c:Nat),c < 2→∀ q,(zco (c:Int) p q).run=some (.inl (((c+1:Nat):Int),p,q)):=by
  intro c hc q
  have h1:=hf.told c
  have h2:=hf.done c
  have h3:=hf.said c
  have h4:=hf.due c
  simp only[zco]
  have hcl:=zag6 (l:=zhm p.Links c) h3 h4
  rw[Tr.rt (by simp;omega),Tr.rg ⟨by omega,by omega⟩,Tr.rg (by rw[zo];omega),Tr.rg (by rw[zer];omega),Tr.rg (by rw[hcl];rfl),Tr.rl,hcl,zl (by omega)]
  rcases (show c=0∨c=1 by omega) with rfl | rfl<;>rfl
 rw[zm7,zop,Tr.rb (zyp hf.waits),Tr.rg (by rw[zo];omega),Tr.rb (v:=(p,default)) (by
  show zje 0 p default=_
  rw[zje,zab (s':=(((1:Nat):Int),p,default)) (turn 0 (by omega) _),zab (s':=(((2:Nat):Int),p,default)) (turn 1 (by omega) _),zba (by
   show (zco 2 p default).run=_
   simp only[zco]
   rw[Tr.rf (by simp),Tr.rl])])]
 simp only[]
 rw[Tr.rb (v:=(p,default,p.Queue)) (by
  rw[zo3]
  refine zag7 hq (fun t=>?_) (fun i t hi ht=>?_)
  ·simp only[zgd];rw[Tr.rf (by simp),Tr.rl]
  ·obtain ⟨p1,p2⟩:=hf.ps _ (zbk (l:=p.Queue) (k:=i) hi default)
   have htl:t.length≤i:=by rw[ht,List.length_take];omega
   simp only[zgd,yy4]
   rw[Tr.rt (by simpa using hi),Tr.rg ⟨by omega,by show (i:Int) < (p.Queue.length:Nat);omega⟩,Tr.rg (by rw[z3k p1 p2];rfl),Tr.rg (by show (t.length+1)*88≤_;omega),Tr.rl,z3k p1 p2,zl (by omega)]
   rfl),Tr.rl]
theorem zqc {p:za} (hf:FitPr 140737488351232 p):za5 p=some p:=by
 have hs:=hf.set
 have hq:=hf.queue
 have turn:∀ (c:Nat),c < 2→∀ q,(zbv (c:Int) p q).run=some (.inl (((c+1:Nat):Int),p,q)):=by
  intro c hc q
  have h1:=hf.told c
  have h2:=hf.done c
  have h3:=hf.said c
  have h4:=hf.due c
  simp only[zbv]
  have hcl:=zag6 (l:=zhm p.Links c) h3 h4
  rw[Tr.rt (by simp;omega),Tr.rg ⟨by omega,by omega⟩,Tr.rg (by rw[zo];omega),Tr.rg (by rw[zer];omega),Tr.rg (by rw[hcl];rfl),Tr.rl,hcl,zl (by omega)]
  rcases (show c=0∨c=1 by omega) with rfl | rfl<;>rfl
 rw[za5,zlp,Tr.rb (zyp hf.waits),Tr.rg (by rw[zo];omega),Tr.rb (v:=(p,default)) (by
  show zhh 0 p default=_
  rw[zhh,zab (s':=(((1:Nat):Int),p,default)) (turn 0 (by omega) _),zab (s':=(((2:Nat):Int),p,default)) (turn 1 (by omega) _),zba (by
   show (zbv 2 p default).run=_
   simp only[zbv]
   rw[Tr.rf (by simp),Tr.rl])])]
 simp only[]
 rw[Tr.rb (v:=(p,default,p.Queue)) (by
  rw[znh]
  refine zag7 hq (fun t=>?_) (fun i t hi ht=>?_)
  ·simp only[ze4];rw[Tr.rf (by simp),Tr.rl]
  ·obtain ⟨p1,p2⟩:=hf.ps _ (zbk (l:=p.Queue) (k:=i) hi default)
   have htl:t.length≤i:=by rw[ht,List.length_take];omega
   simp only[ze4,yy4]
   rw[Tr.rt (by simpa using hi),Tr.rg ⟨by omega,by show (i:Int) < (p.Queue.length:Nat);omega⟩,Tr.rg (by rw[z3k p1 p2];rfl),Tr.rg (by show (t.length+1)*88≤_;omega),Tr.rl,z3k p1 p2,zl (by omega)]
   rfl),Tr.rl]
structure zbhy (p:za):Prop where
 waits:p.Stake.Waits.length≤9223372036854775807
 set:p.Set.length≤9223372036854775807
 told:∀ c,(p.Links.Told.get c).length≤9223372036854775807
 done:∀ c,(p.Links.Done.get c).length≤9223372036854775807
 said:∀ c,(p.Links.Said.get c).length≤9223372036854775807
 due:∀ c,(p.Links.Due.get c).length≤9223372036854775807
 queue:p.Queue.length≤9223372036854775807
 ps:∀ a,a∈p.Queue→a.P.Set.length≤9223372036854775807∧a.P.Done.length≤9223372036854775807
theorem FitPr.len {R:Nat} {p:za} (h:FitPr R p) (hR:R≤9223372036854775807):zbhy p :=
 ⟨by have:=h.waits;omega,by have:=h.set;omega,fun c=>by have:=h.told c;omega,fun c=>by have:=h.done c;omega,fun c=>by have:=h.said c;omega,fun c=>by have:=h.due c;omega,by have:=h.queue;omega,
  fun a ha=>by have:=h.ps a ha;omega⟩
theorem zauy {p:za} (hf:zbhy p):zfm p p=some true:=by
 have hS:=za0l hf.waits
 have hP:=z20 hf.set
 have turn:∀ (c:Nat),c < 2→(zcq (c:Int) p p).run=some (.inl (((c+1:Nat):Int),p,p)):=by
  intro c hc
  have h1:=z20 (hf.told c)
  have h2:=zaiu (hf.done c)
  have h3:=zao1 (l:=zhm p.Links c) (hf.said c) (hf.due c)
  simp only[zcq]
  rw[Tr.rt (by simp;omega),Tr.rg ⟨by omega,by omega⟩,Tr.rg ⟨by omega,by omega⟩,Tr.rg (fun _=>⟨by rw[h1];rfl,trivial⟩),Tr.rg (fun _=>⟨by rw[h2];rfl,trivial⟩),Tr.rg (fun _=>⟨by rw[h3];rfl,trivial⟩),h1,h2,h3,
   Tr.rf (by simp),Tr.rl,zl (by omega)]
 have loop:zjf 0 p p=some (.inr (p,p)):=by
  rw[zjf,zab (s':=(((1:Nat):Int),p,p)) (turn 0 (by omega)),zab (s':=(((2:Nat):Int),p,p)) (turn 1 (by omega)),zba (by
   show (zcq 2 p p).run=_
   simp only[zcq]
   rw[Tr.rf (by simp),Tr.rl])]
 have queue:zjg p.Queue.length 0 p p=some (.inr ()):=by
  rw[zjg]
  have hq:=hf.queue
  have:=zwh (F:=fun s:Int×Int×za×za=>(zed s.1 s.2.1 s.2.2.1 s.2.2.2).run) p.Queue default (fun i=>((p.Queue.length:Int),(i:Int),p,p)) (fun _=>true) false () (by
    simp only[zed];rw[Tr.rf (by simp),Tr.rl]) (by
    intro i hi h
    obtain ⟨p1,p2⟩:=hf.ps _ (zbk (l:=p.Queue) (k:=i) hi default)
    have hb:(0:Int)≤(i:Int)∧(i:Int) < ((Sl.len (.asked p.Queue):Nat):Int):=⟨by omega,by show (i:Int) < (p.Queue.length:Nat);omega⟩
    have hsp:=zadz p1 p2
    simp only[zed,yy4]
    rw[Tr.rt (by simpa using hi),Tr.rg hb,Tr.rg hb,Tr.rg (fun _=>⟨hb,trivial⟩),Tr.rg (fun _=>⟨hb,trivial⟩),Tr.rg (fun _=>⟨by rw[hsp];rfl,trivial⟩),hsp,Tr.rf (by simp),Tr.rl,zl (by omega)]) (by
    intro i hi h
    cases h)
  rw[if_pos (by simp)] at this
  exact this
 rw[zfm,zoq,Tr.rg (fun _=>⟨by rw[hS];rfl,trivial⟩),Tr.rg (fun _=>⟨by rw[hP];rfl,trivial⟩),hS,hP,Tr.rf (by simp),Tr.rj loop]
 simp only[]
 rw[Tr.rj queue,Tr.rl]
theorem zo9 {α:Type} {t e:Tr α}:(Tr.ite (!true) t e).run=e.run:=Tr.rf (show (!true)=false from rfl)
theorem zpa {α:Type} {t e:Tr α}:(Tr.ite (!false) t e).run=t.run:=Tr.rt (show (!false)=true from rfl)
def newM (x t:Int):Meter:=⟨if x < 5 then 1 else x / 5,i64.wrap (t+10)⟩
def zajh (m:Meter) (x t:Int):Meter:=if m.Next≤t then newM x t else m
def z9z (m:Meter) (n:Int):Meter×Bool:=if m.Left≤0 then (m,false) else (⟨i64.wrap (m.Left - n),m.Next⟩,true)
theorem zauz {x t:Int} (hx:i6 x):zvt x t=some (newM x t):=by
 have h:znt x=some (if x < 5 then 1 else x / 5):=by
  rw[znt,zph,Tr.rg (by decide),Tr.rl]
  unfold i6 at hx
  by_cases h5:x < 5
  ·have:Int.tdiv x 5 < 1:=by
    by_cases h0:0≤x
    ·rw[Int.tdiv_eq_ediv_of_nonneg h0];omega
    ·have:Int.tdiv x 5≤0:=by
      have h1:Int.tdiv (-x) 5 = - Int.tdiv x 5:=Int.neg_tdiv x 5
      rw[Int.tdiv_eq_ediv_of_nonneg (by omega)] at h1
      omega
     omega
   have hl : -9223372036854775808≤Int.tdiv x 5:=by
    by_cases h0:0≤x
    ·rw[Int.tdiv_eq_ediv_of_nonneg h0];omega
    ·have h1:Int.tdiv (-x) 5 = - Int.tdiv x 5:=Int.neg_tdiv x 5
     rw[Int.tdiv_eq_ediv_of_nonneg (by omega)] at h1
     omega
   rw[zg (by omega) (by omega),if_neg (by omega),if_pos h5]
  ·rw[Int.tdiv_eq_ediv_of_nonneg (by omega),zg (by omega) (by omega),if_neg h5]
   split
   ·rfl
   ·congr 1;omega
 rw[zvt,z5p,Tr.rb h,Tr.rl];rfl
theorem zag8 {x t:Int} (hx:i6 x):znv x t=some (newM x t):=by
 have h:zrp x=some (if x < 5 then 1 else x / 5):=by
  rw[zrp,zty]
  unfold i6 at hx
  by_cases h5:x < 5
  ·rw[Tr.rt (by simpa using h5),Tr.rl,if_pos h5]
  ·rw[Tr.rf (by simpa using h5),Tr.rg (by decide),Tr.rl,if_neg h5,Int.tdiv_eq_ediv_of_nonneg (by omega),zg (by omega) (by omega)]
 rw[znv,zwx,Tr.rb h,Tr.rl];rfl
theorem zapo {m:Meter} {x t:Int} (hx:i6 x):zs7 m x t=some (zajh m x t):=by
 rw[zs7,z1q]
 unfold zajh
 by_cases h:m.Next≤t
 ·rw[Tr.rt (by simpa using h),Tr.rb (zauz hx),Tr.rl,if_pos h]
 ·rw[Tr.rf (by simpa using h),Tr.rl,if_neg h]
theorem zaec {m:Meter} {x t:Int} (hx:i6 x):zmg m x t=some (zajh m x t):=by
 rw[zmg,ztz]
 unfold zajh
 by_cases h:m.Next≤t
 ·rw[Tr.rf (by simpa using h),Tr.rb (zag8 hx),Tr.rl,if_pos h]
 ·rw[Tr.rt (by simpa using h),Tr.rl,if_neg h]
theorem zapp {m:Meter} {n:Int}:zkx m n=some (z9z m n):=by
 rw[zkx,z1r]
 unfold z9z
 by_cases h:m.Left≤0
 ·rw[Tr.rt (by simpa using h),Tr.rl,if_pos h]
 ·rw[Tr.rf (by simpa using h),Tr.rl,if_neg h]
theorem zanp {m:Meter} {n:Int}:zrq m n=some (z9z m n):=by
 rw[zrq,zt0]
 unfold z9z
 by_cases h:m.Left≤0
 ·rw[Tr.rt (by simp;omega),Tr.rl,if_pos h]
 ·rw[Tr.rf (by simp;omega),Tr.rl,if_neg h]
def zarn:za:=⟨0,0,newS,[],default,newM 0 0,[]⟩
theorem zaro:zuh=some zarn:=by
 rw[zuh,zxe,Tr.rb zani,Tr.rb (zauz (by unfold i6;omega)),Tr.rl];rfl
theorem zaji:zos=some zarn:=by
 rw[zos,zp2,Tr.rb zafp,Tr.rb (zag8 (by unfold i6;omega)),Tr.rl];rfl
def zff (p:za) (d v n:Int):za×Int :=
 if zau p=true then (if (zfo p.Stake d v n).2≠0 then (p,(zfo p.Stake d v n).2) else ({ p with Stake:=(zfo p.Stake d v n).1 },0)) else (p,2)
theorem zaed {p:za} (hf:FitPr 140737488351232 p) {d v n:Int} (hn:n≤9223372036854775807):zlj p d v n=some (zff p d v n):=by
 rw[zlj,zmz,Tr.rb (znb hf)]
 unfold zff
 by_cases hg:zau p=true
 ·rw[hg,zo9,if_pos rfl,Tr.rb (zanc hn)]
  by_cases h0:(zfo p.Stake d v n).2≠0
  ·rw[Tr.rt (by simpa using h0),Tr.rl,if_pos h0]
  ·rw[Tr.rf (by simpa using h0),Tr.rl,if_neg h0]
 ·rw[Bool.eq_false_iff.2 hg,zpa,Tr.rl];rfl
theorem z8k {p:za} (hf:FitPr 140737488351232 p) {d v n:Int} (hn:n≤9223372036854775807):zbw p d v n=some (zff p d v n):=by
 rw[zbw,zjj,Tr.rb (zgp hf)]
 unfold zff
 by_cases hg:zau p=true
 ·rw[hg,zo9,if_pos rfl,Tr.rb (zafn hn)]
  by_cases h0:(zfo p.Stake d v n).2≠0
  ·rw[Tr.rt (by simpa using h0),Tr.rl,if_pos h0]
  ·rw[Tr.rf (by simpa using h0),Tr.rb (zaux hf),Tr.rl,if_neg h0]
 ·rw[Bool.eq_false_iff.2 hg,zpa,Tr.rl];rfl
def zafq (p:za) (now:Int):Wait:=⟨0,0,0,0,p.Height+1,now+20,if p.Links.On.x0=true then p.Height+1 else 0,if p.Links.On.x1=true then p.Height+1 else 0⟩
def zaln (L:Links):Links:={ L with Fresh:=⟨L.Fresh.x0||L.On.x0,L.Fresh.x1||L.On.x1⟩ }
def zcu (p:za) (d v k now:Int):za×Int :=
 if zau p=true∧0≤now∧now≤1099511627776 then
  (if (zb0 p.Stake d v k (zafq p now)).2≠0 then (p,(zb0 p.Stake d v k (zafq p now)).2) else ({ p with Stake:=(zb0 p.Stake d v k (zafq p now)).1,Links:=zaln p.Links },0))
 else (p,2)
theorem zet {p:za} (h:zau p=true):GoodS p.Stake∧zyt p∧zv 1 (-1) p.Set=true∧okLk p 0=true∧okLk p 1=true∧p.Queue.all (zvl p)=true:=by
 unfold zau at h
 simp only[yy7,decide_eq_true_eq] at h
 exact ⟨h.1.1.1.1.1,h.1.1.1.1.2,h.1.1.1.2,h.1.1.2,h.1.2,h.2⟩
theorem z3s {p:za} {now:Int}:(((!zau p)||(decide (now < 0)))||(decide (now > 1099511627776))) = !decide (zau p=true∧0≤now∧now≤1099511627776):=by
 rw[Bool.eq_iff_iff]
 simp only[Bool.or_eq_true,Bool.not_eq_true',decide_eq_true_eq,yy8]
 cases zau p<;>simp<;>omega
theorem z90 {p:za} (hf:FitPr 140737488351232 p) {d v k now:Int} (hk:k≤9223372036854775807):zb6 p d v k now=some (zcu p d v k now):=by
 rw[zb6,zkb,Tr.rb (znb hf)]
 unfold zcu
 by_cases hg:zau p=true∧0≤now∧now≤1099511627776
 ·rw[if_pos hg]
  obtain ⟨g1,g2,-⟩:=zet hg.1
  unfold zyt at g2
  have turn:∀ (c:Nat),c < 2→∀ (q:za) (w:Wait),(zbm d v k c p q w).run=some (.inl (d,v,k,((c+1:Nat):Int),p,q,if p.Links.On.get c=true then { w with h0:=if (c:Int)=0 then p.Height+1 else w.h0,h1:=if (c:Int)=1 then p.Height+1 else w.h1 } else w)):=by
   intro c hc q w
   simp only[zbm]
   rw[Tr.rt (by simp;omega),Tr.rg ⟨by omega,by omega⟩]
   by_cases ho:p.Links.On.get c=true
   ·rw[Tr.rt ho,Tr.rg ⟨by omega,by omega⟩,Tr.rl,zl (by omega),if_pos ho,zg (by omega) (by omega)]
   ·rw[Tr.rf (Bool.eq_false_iff.2 ho),Tr.rl,zl (by omega),if_neg ho]
  have hw:zgm d v k 0 p default ⟨0,0,0,0,p.Height+1,now+20,0,0⟩=some (d,v,k,p,default,zafq p now):=by
   rw[zgm,zab (s':=(d,v,k,((1:Nat):Int),p,_,_)) (turn 0 (by omega) _ _),zab (s':=(d,v,k,((2:Nat):Int),p,_,_)) (turn 1 (by omega) _ _),zba (by
    show (zbm d v k 2 p _ _).run=_
    simp only[zbm]
    rw[Tr.rf (by simp),Tr.rl])]
   have e0:p.Links.On.get ((0:Nat):Int)=p.Links.On.x0:=rfl
   have e1:p.Links.On.get ((1:Nat):Int)=p.Links.On.x1:=rfl
   rw[e0,e1]
   unfold zafq
   cases p.Links.On.x0<;>cases p.Links.On.x1<;>rfl
  rw[Tr.rf (by rw[z3s,decide_eq_true hg];rfl),zg (x:=p.Height+1) (by omega) (by omega),zg (x:=now+20) (by omega) (by omega),Tr.rb hw]
  simp only[]
  rw[Tr.rb (zai8 hk)]
  by_cases h0:(zb0 p.Stake d v k (zafq p now)).2≠0
  ·rw[Tr.rt (by simpa using h0),Tr.rl,if_pos h0]
  ·rw[Tr.rf (by simpa using h0),if_neg h0]
   have turn2:∀ (c:Nat),c < 2→∀ (p q:za),(zbn c p q).run=some (.inl (((c+1:Nat):Int),{ p with Links:={ p.Links with Fresh:=p.Links.Fresh.set c (p.Links.Fresh.get c||p.Links.On.get c) } },q)):=by
    intro c hc p q
    simp only[zbn]
    rw[Tr.rt (by simp;omega),Tr.rg ⟨by omega,by omega⟩,Tr.rg (fun _=>⟨⟨by omega,by omega⟩,trivial⟩),Tr.rg ⟨by omega,by omega⟩,Tr.rl,zl (by omega)]
   rw[Tr.rb (v:=({ p with Stake:=(zb0 p.Stake d v k (zafq p now)).1,Links:=zaln p.Links },default)) (by
    rw[zl7,zab (s':=(((1:Nat):Int),_,_)) (turn2 0 (by omega) _ _),zab (s':=(((2:Nat):Int),_,_)) (turn2 1 (by omega) _ _),zba (by
     show (zbn 2 _ _).run=_
     simp only[zbn]
     rw[Tr.rf (by simp),Tr.rl])]
    rfl),Tr.rl]
 ·rw[if_neg hg,Tr.rt (by rw[z3s,decide_eq_false hg];rfl),Tr.rl]
theorem z33 {p:za} (hf:FitPr 140737488351232 p) {d v k now:Int} (hk:k≤9223372036854775807):zbe p d v k now=some (zcu p d v k now):=by
 rw[zbe,zhi,Tr.rb (zgp hf)]
 unfold zcu
 by_cases hg:zau p=true∧0≤now∧now≤1099511627776
 ·rw[if_pos hg]
  obtain ⟨g1,g2,-⟩:=zet hg.1
  unfold zyt at g2
  have turn:∀ (c:Nat),c < 2→∀ (q r:za) (w:Wait),(za4 d v k c p q r w).run=some (.inl (d,v,k,((c+1:Nat):Int),p,q,if r.Links.On.get c=true then { r with Links:={ r.Links with Fresh:=r.Links.Fresh.set c true } } else r,if r.Links.On.get c=true then { w with h0:=if (c:Int)=0 then p.Height+1 else w.h0,h1:=if (c:Int)=1 then p.Height+1 else w.h1 } else w)):=by
   intro c hc q r w
   simp only[za4]
   rw[Tr.rt (by simp;omega),Tr.rg ⟨by omega,by omega⟩]
   by_cases ho:r.Links.On.get c=true
   ·rw[Tr.rt ho,Tr.rg ⟨by omega,by omega⟩,Tr.rg ⟨by omega,by omega⟩,Tr.rl,zl (by omega),if_pos ho,if_pos ho,zg (by omega) (by omega)]
   ·rw[Tr.rf (Bool.eq_false_iff.2 ho),Tr.rl,zl (by omega),if_neg ho,if_neg ho]
  have hw:ze5 d v k 0 p default p ⟨0,0,0,0,p.Height+1,now+20,0,0⟩=some (d,v,k,p,default,{ p with Links:=zaln p.Links },zafq p now):=by
   rw[ze5,zab (s':=(d,v,k,((1:Nat):Int),p,_,_,_)) (turn 0 (by omega) _ _ _),zab (s':=(d,v,k,((2:Nat):Int),p,_,_,_)) (turn 1 (by omega) _ _ _),zba (by
    show (za4 d v k 2 p _ _ _).run=_
    simp only[za4]
    rw[Tr.rf (by simp),Tr.rl])]
   obtain ⟨H,T,S,P,L,M,Q⟩:=p
   obtain ⟨on,g1,g2,g3,fr,g4,g5,g6,g7,g8,g9,g10,g11,g12⟩:=L
   obtain ⟨o0,o1⟩:=on
   obtain ⟨f0,f1⟩:=fr
   cases o0<;>cases o1<;>cases f0<;>cases f1<;>rfl
  rw[Tr.rf (by rw[z3s,decide_eq_true hg];rfl),Tr.rb (zqc hf),zg (x:=p.Height+1) (by omega) (by omega),zg (x:=now+20) (by omega) (by omega),Tr.rb hw]
  simp only[]
  rw[Tr.rb (zabe hk)]
  by_cases h0:(zb0 p.Stake d v k (zafq p now)).2≠0
  ·rw[Tr.rt (by simpa using h0),Tr.rl,if_pos h0]
  ·rw[Tr.rf (by simpa using h0),if_neg h0,Tr.rl]
 ·rw[if_neg hg,Tr.rt (by rw[z3s,decide_eq_false hg];rfl),Tr.rl]
theorem z8l:∀ {l:List Int} {p:Int},zad p l=true→(∀ q,q∈l→p < q∧q≤5)∧l.Pairwise (· < ·)
 | [],p,h=>⟨by simp,.nil⟩
 | q::l,p,h=>by
  simp only[zad,yy7,decide_eq_true_eq] at h
  obtain ⟨h1,h2⟩:=z8l h.2
  refine ⟨fun x hx=>?_,List.pairwise_cons.2 ⟨fun x hx=>(h1 x hx).1,h2⟩⟩
  rcases List.mem_cons.1 hx with rfl | hx
  ·exact h.1
  ·have:=h1 x hx;omega
theorem zalo:∀ {l:List Int} {p:Int},(∀ q,q∈l→p < q∧q≤5)→l.Pairwise (· < ·)→zad p l=true
 | [],p,_,_=>rfl
 | q::l,p,h1,h2=>by
  have hq:=h1 q (List.mem_cons_self ..)
  rw[List.pairwise_cons] at h2
  simp only[zad,yy7,decide_eq_true_eq]
  exact ⟨hq,zalo (fun x hx=>⟨h2.1 x hx,(h1 x (List.mem_cons_of_mem _ hx)).2⟩) h2.2⟩
theorem zanq:∀ {l m:List Int},l.Pairwise (· < ·)→m.Pairwise (· < ·)→(∀ p,p∈l↔p∈m)→l=m
 | [],[],_,_,_=>rfl
 | [],b::m,_,_,h=>by have:=(h b).2 (List.mem_cons_self ..);cases this
 | a::l,[],_,_,h=>by have:=(h a).1 (List.mem_cons_self ..);cases this
 | a::l,b::m,hl,hm,h=>by
  rw[List.pairwise_cons] at hl hm
  have hab:a=b:=by
   rcases List.mem_cons.1 ((h a).1 (List.mem_cons_self ..)) with h1 | h1
   ·exact h1
   ·rcases List.mem_cons.1 ((h b).2 (List.mem_cons_self ..)) with h2 | h2
    ·exact h2.symm
    ·have k1:=hm.1 a h1
     have k2:=hl.1 b h2
     omega
  subst hab
  congr 1
  refine zanq hl.2 hm.2 fun p=>⟨fun hp=>?_,fun hp=>?_⟩
  ·rcases List.mem_cons.1 ((h p).1 (List.mem_cons_of_mem _ hp)) with h1 | h1
   ·have:=hl.1 p hp;omega
   ·exact h1
  ·rcases List.mem_cons.1 ((h p).2 (List.mem_cons_of_mem _ hp)) with h1 | h1
   ·have:=hm.1 p hp;omega
   ·exact h1
theorem za7w (a b:Int):zup a b=some (decide (a < b)):=by
 have h:∀ x,zit x=some false:=fun x=>by rw[zit,zuo,Tr.rl];simp
 rw[zup,zxg,Tr.rb (h a),Tr.rg (fun e=>by cases e),Tr.rl]
 simp
theorem zapq (x:Int):zcj x=some false:=by rw[zcj,zof,Tr.rl];simp
theorem zanr {l:List Int} (h:l.Pairwise (· < ·)) {x y:Nat} (hxy:x < y) (hy:y < l.length):l.getD x 0 < l.getD y 0:=by
 have:=List.pairwise_iff_getElem.1 h x y (by omega) hy hxy
 rw[yy0,yy0,yy3 hy,yy3 (show x < l.length by omega)]
 exact this
def zalp (l:List Int) (v k:Int):Prop:=0≤k∧k≤l.length∧(∀ x:Nat,(x:Int) < k→l.getD x 0 < v)∧(∀ x:Nat,k≤x→x < l.length→v≤l.getD x 0)
theorem zau0 {l:List Int} (hs:l.Pairwise (· < ·)) (hl:l.length≤1000) (v:Int) :
  ∃ k,ziu l v l.length 0 l.length=some (l,v,(l.length:Int),k)∧zalp l v k:=by
 have:=zjt (F:=fun s:(List Int)×Int×Int×Int×Int=>(zcv s.1 s.2.1 s.2.2.1 s.2.2.2.1 s.2.2.2.2).run)
  (fun s=>s.1=l∧s.2.1=v∧s.2.2.1=l.length∧(0≤s.2.2.2.1∧s.2.2.2.1≤s.2.2.2.2∧s.2.2.2.2≤l.length)∧(∀ x:Nat,(x:Int) < s.2.2.2.1→l.getD x 0 < v)∧(∀ x:Nat,s.2.2.2.2≤x→x < l.length→v≤l.getD x 0))
  (fun s=>(s.2.2.2.2 - s.2.2.2.1).toNat) (fun s r=>∃ k,r=(l,v,(l.length:Int),k)∧zalp l v k) ?_ (l,v,(l.length:Int),0,(l.length:Int)) ⟨rfl,rfl,rfl,⟨by simp,by simp,by simp⟩,by intro x hx;simp only[] at hx;omega,by intro x hx h2;simp only[] at hx;omega⟩
 ·obtain ⟨r,h1,k,rfl,h3⟩:=this
  exact ⟨k,h1,h3⟩
 ·rintro ⟨x0,x1,x2,i,j⟩ ⟨h1,h2,h3,⟨h4,h5,h6⟩,h7,h8⟩
  simp only at h1 h2 h3 h4 h5 h6 h7 h8
  rw[h1,h2,h3] at *
  simp only[zcv]
  by_cases hc:i < j
  ·have hm:i64.wrap (Int.fdiv (u64.wrap (i64.wrap (i+j))) (2 ^ 1))=(i+j) / 2:=by
    rw[zg (x:=i+j) (by omega) (by omega),zatr (by omega) (by omega),Int.fdiv_eq_ediv_of_nonneg _ (by decide),zg (by omega) (by omega)]
    rfl
   rw[hm]
   generalize hmm:(i+j) / 2=m
   have m1:i≤m:=by omega
   have m2:m < j:=by omega
   rw[Tr.rt (by simpa using hc),Tr.rg (by decide),Tr.rg ⟨by omega,by show m < (l.length:Nat);omega⟩,Tr.rb (za7w _ _)]
   by_cases hlt:l.getD m.toNat 0 < v
   ·refine .inl ⟨(l,v,(l.length:Int),m+1,j),by rw[Tr.rt (by simpa using hlt),Tr.rl,zg (by omega) (by omega)],⟨rfl,rfl,rfl,⟨by simp only[];omega,by simp only[];omega,by simp only[];omega⟩,?_,h8⟩,by simp only[];omega,fun r hr=>hr⟩
    intro x hx
    simp only[] at hx
    by_cases hxm:x=m.toNat
    ·rw[hxm];exact hlt
    ·have:=zanr hs (x:=x) (y:=m.toNat) (by omega) (by omega)
     omega
   ·refine .inl ⟨(l,v,(l.length:Int),i,m),by rw[Tr.rf (by simpa using hlt),Tr.rl],⟨rfl,rfl,rfl,⟨by simp only[];omega,by simp only[];omega,by simp only[];omega⟩,h7,?_⟩,by simp only[];omega,fun r hr=>hr⟩
    intro x hx hx2
    simp only[] at hx
    by_cases hxm:x=m.toNat
    ·rw[hxm];omega
    ·have:=zanr hs (x:=m.toNat) (y:=x) (by omega) hx2
     omega
  ·refine .inr ⟨(l,v,(l.length:Int),i),by rw[Tr.rf (by simpa using hc),Tr.rl],i,rfl,h4,by omega,h7,fun x hx=>h8 x (by omega)⟩
theorem zau1 {l:List Int} (hs:l.Pairwise (· < ·)) (hl:l.length≤1000) (v:Int):∃ k,zy l v=some (k,decide (v∈l))∧zalp l v k:=by
 obtain ⟨k,h1,h2⟩:=zau0 hs hl v
 refine ⟨k,?_,h2⟩
 obtain ⟨k0,k1,k2,k3⟩:=h2
 have hin:decide (k < (l.length:Int))=true→(0:Int)≤k∧k < ((Sl.len (.ints l):Nat):Int):=fun h=>⟨k0,by simpa[Sl.len] using h⟩
 rw[zy,zgn,Tr.rb h1]
 simp only[]
 rw[Tr.rg (fun h=>⟨hin h,trivial⟩),Tr.rg (fun _ h=>⟨hin h,trivial⟩),Tr.rg (fun _ _=>⟨by rw[zapq];rfl,trivial⟩),Tr.rg (fun _ _ _=>⟨by rw[zapq];rfl,trivial⟩),Tr.rl,zapq,zapq]
 simp only[yy2,Bool.and_false,Bool.or_false]
 congr 2
 rw[Bool.eq_iff_iff]
 simp only[yy7,decide_eq_true_eq,beq_iff_eq]
 constructor
 ·rintro ⟨hk,he⟩
  rw[← he]
  exact zbk (by omega) 0
 ·intro hv
  obtain ⟨x,hx,he⟩:=List.getElem_of_mem hv
  have hg:l.getD x 0=v:=by rw[yy0,yy3 hx];exact he
  have hkx:k≤x:=by
   rcases Int.lt_or_le (x:Int) k with h | h
   ·have:=k2 x h;omega
   ·exact h
  refine ⟨by omega,?_⟩
  have h3:=k3 k.toNat (by omega) (by omega)
  by_cases hxk:x=k.toNat
  ·rw[← hxk];exact hg
  ·have:=zanr hs (x:=k.toNat) (y:=x) (by omega) hx
   omega
def insD (l:List Int) (v:Int):List Int:=((List.range 6).map (fun (u:Nat)=>(u:Int))).filter (fun u=>u==v||decide (u∈l))
theorem range_pw:((List.range 6).map (fun (u:Nat)=>(u:Int))).Pairwise (· < ·):=by decide
theorem zant (l:List Int) (v:Int):(insD l v).Pairwise (· < ·):=range_pw.sublist List.filter_sublist
theorem zarp {u:Int}:u∈(List.range 6).map (fun (u:Nat)=>(u:Int))↔0≤u∧u≤5:=by
 rw[List.mem_map]
 constructor
 ·rintro ⟨x,hx,rfl⟩;rw[List.mem_range] at hx;omega
 ·intro h;exact ⟨u.toNat,by rw[List.mem_range];omega,by omega⟩
theorem mem_insD {l:List Int} {v u:Int}:u∈insD l v↔(0≤u∧u≤5)∧(u=v∨u∈l):=by
 unfold insD;rw[List.mem_filter,zarp];simp
theorem zau2 (l:List Int) (v:Int):zad (-1) (insD l v)=true:=zalo (fun q hq=>by have:=(mem_insD.1 hq).1;omega) (zant l v)
theorem za7x {l:List Int} {v:Int} (h:zad (-1) l=true) (hv:v∈l):insD l v=l:=by
 obtain ⟨h1,h2⟩:=z8l h
 refine zanq (zant l v) h2 fun u=>?_
 rw[mem_insD]
 constructor
 ·rintro ⟨_,rfl | h⟩<;>assumption
 ·intro hu;have:=h1 u hu;exact ⟨by omega,.inr hu⟩
theorem za05 {l:List Int} {v k:Int} (h:zad (-1) l=true) (hv:v∉l) (hv5:0≤v∧v≤5) (hk:zalp l v k):l.take k.toNat++[v]++l.drop k.toNat=insD l v:=by
 obtain ⟨h1,h2⟩:=z8l h
 obtain ⟨k0,k1,k2,k3⟩:=hk
 have htake:∀ x,x∈l.take k.toNat→x < v:=by
  intro x hx
  obtain ⟨i,hi,rfl⟩:=List.getElem_of_mem hx
  rw[List.length_take] at hi
  have:=k2 i (by omega)
  rw[yy0,yy3 (by omega)] at this
  rw[List.getElem_take];exact this
 have hdrop:∀ x,x∈l.drop k.toNat→v < x:=by
  intro x hx
  have hm:x∈l:=List.mem_of_mem_drop hx
  obtain ⟨i,hi,rfl⟩:=List.getElem_of_mem hx
  rw[List.length_drop] at hi
  have:=k3 (k.toNat+i) (by omega) (by omega)
  rw[yy0,yy3 (by omega)] at this
  rw[List.getElem_drop] at hm ⊢
  have hne:l[k.toNat+i]≠v:=fun e=>hv (e ▸ hm)
  have h3:v≤l[k.toNat+i]:=this
  omega
 refine zanq ?_ (zant l v) fun u=>?_
 ·rw[List.append_assoc,List.pairwise_append]
  refine ⟨h2.sublist (List.take_sublist _ _),?_,?_⟩
  ·rw[List.singleton_append,List.pairwise_cons]
   exact ⟨hdrop,h2.sublist (List.drop_sublist _ _)⟩
  ·intro a ha b hb
   rw[List.singleton_append] at hb
   rcases List.mem_cons.1 hb with rfl | hb
   ·exact htake a ha
   ·have:=htake a ha;have:=hdrop b hb;omega
 ·rw[mem_insD,List.append_assoc,List.mem_append,List.singleton_append,List.mem_cons]
  constructor
  ·rintro (hu | rfl | hu)
   ·have hm:=List.mem_of_mem_take hu
    have:=h1 u hm
    exact ⟨by omega,.inr hm⟩
   ·exact ⟨hv5,.inl rfl⟩
   ·have hm:=List.mem_of_mem_drop hu
    have:=h1 u hm
    exact ⟨by omega,.inr hm⟩
  ·rintro ⟨_,rfl | hu⟩
   ·exact .inr (.inl rfl)
   ·rw[← List.take_append_drop k.toNat l,List.mem_append] at hu
    exact hu.imp id .inr
def zvd (p:za) (v:Int):Int:=if (i64.wrap (Int.tdiv (p.Stake.Validators.Tokens.get v) 100)) > 1 then (i64.wrap (Int.tdiv (p.Stake.Validators.Tokens.get v) 100)) else 1
def zau3 (p:za) (c v:Int):za:={ p with Links:={ p.Links with Done:=p.Links.Done.set c (insD (p.Links.Done.get c) v) } }
def zbo8 (p:za) (a:Asked):Int:=if (p.Links.Base.get a.C) > a.P.Id then (p.Links.Base.get a.C) else a.P.Id
def z34 (p:za) (a:Asked):za×Bool :=
 if a.P.Kind=2 then ({ p with Stake:=zmn p.Stake a.C a.P.Id },true)
 else if a.P.Kind=4 then (if p.Stake.Validators.Dead.get a.P.V=true then (p,true) else ({ p with Stake:=(zda (zkp p.Stake a.P.V (zbo8 p a) 50).1 a.P.V 2).1 },true))
 else if p.Stake.Validators.Jailed.get a.P.V=true then (zau3 p a.C a.P.V,true)
 else if (z9z p.Meter (zvd p a.P.V)).2=true then (zau3 { p with Stake:=(zda p.Stake a.P.V 0).1,Meter:=(z9z p.Meter (zvd p a.P.V)).1 } a.C a.P.V,true)
 else (p,false)
structure zalq (p:za) (a:Asked):Prop where
 v:0≤a.P.V∧a.P.V≤5
 c:0≤a.C∧a.C < 2
 k:a.P.Kind=2∨a.P.Kind=3∨a.P.Kind=4
 w:p.Stake.Waits.length*64≤140737488351232
 d:zad (-1) (p.Links.Done.get a.C)=true
theorem zqd {α:Type} (a:A2 α) {c:Int} (hc:0≤c∧c < 2):a.set c (a.get c)=a:=by
 rcases (show c=0∨c=1 by omega) with rfl | rfl<;>rfl
theorem z3t {l:List Int} (h:zad (-1) l=true):l.length≤6:=by
 have:=zyk h (by omega);omega
theorem zau4 {p:za} {a:Asked} (hf:zalq p a) (hv:a.P.V∈p.Links.Done.get a.C):zau3 p a.C a.P.V=p:=by
 unfold zau3
 rw[za7x hf.d hv,zqd _ hf.c]
theorem zau5 {l:List Int} {k v:Int} (hl:l.length≤6) (hk:zalp l v k):zdc l k [v]=some (l.take k.toNat++[v]++l.drop k.toNat):=by
 unfold zdc insP
 rw[if_pos ⟨hk.1,hk.2.1,by simp,by simp;omega⟩]
theorem za7y {p:za} {a:Asked} (hf:zalq p a):zr6 a p=some ((z34 p a).2,(z34 p a).1):=by
 obtain ⟨hv,hc,hk,hw,hd⟩:=hf
 have hl:=z3t hd
 obtain ⟨pk,hs,hpl⟩:=zau1 (z8l hd).2 (by omega) a.P.V
 have hcl:=zakz (l:=p.Links.Done.get a.C) (by omega)
 have hin:=zau5 hl hpl
 have hmem:(!decide (a.P.V∈p.Links.Done.get a.C))=true→(p.Links.Done.get a.C).take pk.toNat++[a.P.V]++(p.Links.Done.get a.C).drop pk.toNat=insD (p.Links.Done.get a.C) a.P.V:=by
  intro h
  exact za05 hd (by simpa using h) hv hpl
 rw[zr6,zuq,Tr.rg ⟨by omega,by omega⟩,Tr.rg hc]
 unfold z34
 by_cases k2:a.P.Kind=2
 ·rw[Tr.rt (by simpa using k2),Tr.rg (by rw[z9v hw];rfl),Tr.rl,z9v hw,if_pos k2];rfl
 ·rw[Tr.rf (by simpa using k2),if_neg k2]
  by_cases k4:a.P.Kind=4
  ·rw[if_pos k4,Tr.rf (by rw[k4];decide),Tr.rt (by simpa using k4)]
   by_cases hdd:p.Stake.Validators.Dead.get a.P.V=true
   ·rw[if_pos hdd,hdd,zo9,Tr.rl]
   ·rw[if_neg hdd,Bool.eq_false_iff.2 hdd,zpa,Tr.rg (by rw[zaja];rfl),zaja]
    simp only[yy2]
    rw[Tr.rg (by rw[zane];rfl),Tr.rl,zane];rfl
  ·have k3:a.P.Kind=3:=by omega
   rw[if_neg k4,Tr.rt (by simpa using k3)]
   by_cases hj:p.Stake.Validators.Jailed.get a.P.V=true
   ·rw[if_pos hj,hj,zo9,Tr.rg (by rw[hs];rfl),hs]
    simp only[yy2]
    by_cases hm:a.P.V∈p.Links.Done.get a.C
    ·rw[decide_eq_true hm,zo9,Tr.rl,zau4 ⟨hv,hc,hk,hw,hd⟩ hm]
    ·rw[decide_eq_false hm,zpa,Tr.rg (by rw[hcl];rfl),hcl]
     simp only[yy2]
     rw[Tr.rg (by rw[hin];rfl),Tr.rl,hin,yy2,hmem (by simpa using hm)]
     rfl
   ·rw[if_neg hj,Bool.eq_false_iff.2 hj,zpa,Tr.rg (by decide),Tr.rg (by rw[zapp];rfl),zapp]
    simp only[yy2]
    rw[show (if (i64.wrap (Int.tdiv (p.Stake.Validators.Tokens.get a.P.V) 100)) > 1 then (i64.wrap (Int.tdiv (p.Stake.Validators.Tokens.get a.P.V) 100)) else 1)=zvd p a.P.V from rfl]
    by_cases ht:(z9z p.Meter (zvd p a.P.V)).2=true
    ·rw[if_pos ht,ht,zo9,Tr.rg (by rw[zaua];rfl),Tr.rg (by rw[hs];rfl),hs,zaua]
     simp only[yy2]
     by_cases hm:a.P.V∈p.Links.Done.get a.C
     ·rw[decide_eq_true hm,zo9,Tr.rl]
      have:=zau4 (p:={ p with Stake:=(zda p.Stake a.P.V 0).1,Meter:=(z9z p.Meter (zvd p a.P.V)).1 }) (a:=a) ⟨hv,hc,hk,by show (zda p.Stake a.P.V 0).1.Waits.length*64≤_;rw[zale];exact hw,hd⟩ hm
      rw[this]
     ·rw[decide_eq_false hm,zpa,Tr.rg (by rw[hcl];rfl),hcl]
      simp only[yy2]
      rw[Tr.rg (by rw[hin];rfl),Tr.rl,hin,yy2,hmem (by simpa using hm)]
      rfl
    ·rw[if_neg ht,Bool.eq_false_iff.2 ht,zpa,Tr.rl]
theorem zalr {F:Int×Int×za×Asked×za×(List Int)→Option ((Int×Int×za×Asked×za×(List Int))⊕(za×Asked×za×(List Int)))} {p q:za} {a:Asked} {l:List Int} {v:Int}
  (hend:∀ t,F (v,6,p,a,q,t)=some (.inr (p,a,q,t)))
  (hstep:∀ (u:Nat) t,u < 6→t.length≤6→F (v,(u:Int),p,a,q,t)=some (.inl (v,((u+1:Nat):Int),p,a,q,t++(if ((u:Int)==v||decide ((u:Int)∈l))=true then [(u:Int)] else [])))) :
  zbl F (v,0,p,a,q,[])=some (p,a,q,insD l v):=by
 have hr:∀ i,((List.range (i+1)).map (fun (u:Nat)=>(u:Int))).filter (fun u=>u==v||decide (u∈l))=((List.range i).map (fun (u:Nat)=>(u:Int))).filter (fun u=>u==v||decide (u∈l))++(if ((i:Int)==v||decide ((i:Int)∈l))=true then [(i:Int)] else []):=by
  intro i
  rw[List.range_succ,List.map_append,List.filter_append]
  congr 1
  rw[List.map_cons,List.map_nil,List.filter_cons,List.filter_nil]
 have:=zb7 (F:=F) 6 (fun i t=>(v,(i:Int),p,a,q,t)) (fun i t=>t=((List.range i).map (fun (u:Nat)=>(u:Int))).filter (fun u=>u==v||decide (u∈l))) (fun i t=>(p,a,q,insD l v)) (by
   rintro t rfl
   exact hend _) (by
   rintro i t hi rfl
   refine .inl ⟨_,hstep i _ hi (Nat.le_trans (List.length_filter_le _ _) (by simp;omega)),?_,rfl⟩
   rw[hr i]) 0 [] (by omega) rfl
 exact this
theorem zapr {F:Int×Int×Bool×Int×(List Int)×Int×Int×za×Asked×za×(List Int)→Option ((Int×Int×Bool×Int×(List Int)×Int×Int×za×Asked×za×(List Int))⊕(Int×Int×Bool×Int×za×Asked×za×(List Int)))}
  {x0 x1 x3:Int} {l:List Int} {p q:za} {a:Asked} {t:List Int} (hl:l.length≤6)
  (hend:∀ b,F (x0,x1,b,x3,l,(l.length:Int),(l.length:Int),p,a,q,t)=some (.inr (x0,x1,b,x3,p,a,q,t)))
  (hstep:∀ (i:Nat) b,i < l.length→F (x0,x1,b,x3,l,(l.length:Int),(i:Int),p,a,q,t)=some (.inl (x0,x1,b||(l.getD i 0==x1),x3,l,(l.length:Int),((i+1:Nat):Int),p,a,q,t))) (b:Bool) :
  zbl F (x0,x1,b,x3,l,(l.length:Int),0,p,a,q,t)=some (x0,x1,b||decide (x1∈l),x3,p,a,q,t):=by
 have:=zb7 (F:=F) l.length (fun i b=>(x0,x1,b,x3,l,(l.length:Int),(i:Int),p,a,q,t)) (fun _ _=>True) (fun i b=>(x0,x1,b||decide (x1∈l.drop i),x3,p,a,q,t)) (by
   intro b _
   rw[hend,List.drop_length];simp) (by
   intro i b hi _
   refine .inl ⟨_,hstep i b hi,trivial,?_⟩
   rw[z6 hi 0]
   congr 3
   rw[Bool.or_assoc]
   congr 1
   rw[Bool.eq_iff_iff]
   simp only[Bool.or_eq_true,beq_iff_eq,decide_eq_true_eq,List.mem_cons]
   constructor
   ·rintro (h | h)
    ·exact .inl h.symm
    ·exact .inr h
   ·rintro (h | h)
    ·exact .inl h.symm
    ·exact .inr h) 0 b (Nat.zero_le _) trivial
 simpa using this
theorem zarq {p:za} {a:Asked} (hf:zalq p a):z6c p a=some (z34 p a):=by
 obtain ⟨hv,hc,hk,hw,hd⟩:=hf
 have row2:∀ p:za,zad (-1) (p.Links.Done.get a.C)=true→zxo a.P.V 0 p a default []=some (p,a,default,insD (p.Links.Done.get a.C) a.P.V):=by
  intro p hd
  have hl:=z3t hd
  rw[zxo]
  refine zalr (fun t=>?_) (fun u t hu ht=>?_)
  ·simp only[z0b];rw[Tr.rf (by simp),Tr.rl]
  ·simp only[z0b]
   rw[Tr.rt (by simp;omega),Tr.rg hc,Tr.rb (v:=(a.P.V,(u:Int),((u:Int)==a.P.V)||decide ((u:Int)∈p.Links.Done.get a.C),(u:Int),p,a,default,t)) (by
    rw[z4u]
    refine zapr hl (fun b=>?_) (fun i b hi=>?_) _
    ·simp only[z0a];rw[Tr.rf (by simp),Tr.rl]
    ·simp only[z0a,yy4]
     rw[Tr.rt (by simpa using hi),Tr.rg ⟨by omega,by show (i:Int) < ((p.Links.Done.get a.C).length:Nat);omega⟩,Tr.rl,zl (by omega)])]
   simp only[]
   by_cases hb:((u:Int)==a.P.V||decide ((u:Int)∈p.Links.Done.get a.C))=true
   ·rw[if_pos hb,Tr.rt hb,Tr.rg (by show (t.length+1)*8≤_;omega),Tr.rl,zl (by omega)]
   ·rw[if_neg hb,Tr.rf (Bool.eq_false_iff.2 hb),Tr.rl,zl (by omega),List.append_nil]
 have row4:∀ p:za,zad (-1) (p.Links.Done.get a.C)=true→zxp a.P.V 0 p a default []=some (p,a,default,insD (p.Links.Done.get a.C) a.P.V):=by
  intro p hd
  have hl:=z3t hd
  rw[zxp]
  refine zalr (fun t=>?_) (fun u t hu ht=>?_)
  ·simp only[zte];rw[Tr.rf (by simp),Tr.rl]
  ·simp only[zte]
   rw[Tr.rt (by simp;omega),Tr.rg hc,Tr.rb (v:=(a.P.V,(u:Int),((u:Int)==a.P.V)||decide ((u:Int)∈p.Links.Done.get a.C),(u:Int),p,a,default,t)) (by
    rw[z4v]
    refine zapr hl (fun b=>?_) (fun i b hi=>?_) _
    ·simp only[ztd];rw[Tr.rf (by simp),Tr.rl]
    ·simp only[ztd,yy4]
     rw[Tr.rt (by simpa using hi),Tr.rg ⟨by omega,by show (i:Int) < ((p.Links.Done.get a.C).length:Nat);omega⟩,Tr.rl,zl (by omega)])]
   simp only[]
   by_cases hb:((u:Int)==a.P.V||decide ((u:Int)∈p.Links.Done.get a.C))=true
   ·rw[if_pos hb,Tr.rt hb,Tr.rg (by show (t.length+1)*8≤_;omega),Tr.rl,zl (by omega)]
   ·rw[if_neg hb,Tr.rf (Bool.eq_false_iff.2 hb),Tr.rl,zl (by omega),List.append_nil]
 rw[z6c,z9l,Tr.rg ⟨by omega,by omega⟩]
 unfold z34
 by_cases k2:a.P.Kind=2
 ·rw[Tr.rt (by simpa using k2),Tr.rb (z8d hw),Tr.rl,if_pos k2]
 ·rw[Tr.rf (by simpa using k2),if_neg k2]
  by_cases k4:a.P.Kind=4
  ·rw[if_pos k4,Tr.rt (by simpa using k4)]
   by_cases hdd:p.Stake.Validators.Dead.get a.P.V=true
   ·rw[if_pos hdd,hdd,zo9,Tr.rl]
   ·rw[if_neg hdd,Bool.eq_false_iff.2 hdd,zpa,Tr.rg hc,Tr.rg (by rw[z6i];rfl),z6i]
    simp only[yy2]
    rw[Tr.rb zabv,Tr.rl];rfl
  ·have k3:a.P.Kind=3:=by omega
   rw[if_neg k4,Tr.rf (by simpa using k4)]
   by_cases hj:p.Stake.Validators.Jailed.get a.P.V=true
   ·rw[if_pos hj,hj,zo9,Tr.rb (row4 p hd),Tr.rg hc,Tr.rl];rfl
   ·rw[if_neg hj,Bool.eq_false_iff.2 hj,zpa,Tr.rg (by decide),Tr.rb zanp]
    rw[show (if (i64.wrap (Int.tdiv (p.Stake.Validators.Tokens.get a.P.V) 100)) > 1 then (i64.wrap (Int.tdiv (p.Stake.Validators.Tokens.get a.P.V) 100)) else 1)=zvd p a.P.V from rfl]
    by_cases ht:(z9z p.Meter (zvd p a.P.V)).2=true
    ·rw[if_pos ht,ht,zo9,Tr.rb zabv,Tr.rb (row2 { p with Stake:=(zda p.Stake a.P.V 0).1,Meter:=(z9z p.Meter (zvd p a.P.V)).1 } hd),Tr.rg hc,Tr.rl];rfl
    ·rw[if_neg ht,Bool.eq_false_iff.2 ht,zpa,Tr.rl]
def upP (p:za) (S:Stake) (D:A2 (List Int)) (M:Meter):za:={ p with Stake:=S,Links:={ p.Links with Done:=D },Meter:=M }
def zabg (p:za) (q:List Asked):za:={ p with Queue:=q }
def DealI (p0 p:za):Prop:=∃ S D M,p=upP p0 S D M∧GoodS S∧zad (-1) D.x0=true∧zad (-1) D.x1=true
theorem DealI.get {p0 p:za} (h:DealI p0 p) {c:Int}:zad (-1) (p.Links.Done.get c)=true:=by
 obtain ⟨S,D,M,rfl,_,h0,h1⟩:=h
 show zad (-1) (D.get c)=true
 unfold A2.get;split<;>assumption
theorem DealI.good {p0 p:za} (h:DealI p0 p):GoodS p.Stake:=by obtain ⟨S,D,M,rfl,h,_⟩:=h;exact h
theorem zau6 {p0:za} {S:Stake} {D:A2 (List Int)} {M:Meter} {c v:Int} (h0:zad (-1) D.x0=true) (h1:zad (-1) D.x1=true):∃ D',zau3 (upP p0 S D M) c v=upP p0 S D' M∧zad (-1) D'.x0=true∧zad (-1) D'.x1=true:=by
 refine ⟨D.set c (insD (D.get c) v),rfl,?_,?_⟩
 ·show zad (-1) (if c=0 then insD (D.get c) v else D.x0)=true
  split
  ·exact zau2 _ _
  ·exact h0
 ·show zad (-1) (if c=1 then insD (D.get c) v else D.x1)=true
  split
  ·exact zau2 _ _
  ·exact h1
theorem z3a {s:Stake} (hg:GoodS s) (v h f:Int):GoodS (zkp s v h f).1:=(zarb hg v h f).1
theorem z0n {s:Stake} (hg:GoodS s) (v:Int) {what:Int} (hw:what=0∨what=1∨what=2):GoodS (zda s v what).1:=(zara hg v hw).1
theorem zaps {p0 p:za} (h:DealI p0 p) (a:Asked):DealI p0 (z34 p a).1:=by
 obtain ⟨S,D,M,rfl,hS,h0,h1⟩:=h
 unfold z34
 split
 ·exact ⟨zmn S a.C a.P.Id,D,M,rfl,zaau hS,h0,h1⟩
 ·split
  ·split
   ·exact ⟨S,D,M,rfl,hS,h0,h1⟩
   ·exact ⟨_,D,M,rfl,z0n (z3a hS _ _ _) _ (.inr (.inr rfl)),h0,h1⟩
  ·split
   ·obtain ⟨D',e,k0,k1⟩:=zau6 (p0:=p0) (S:=S) (M:=M) (c:=a.C) (v:=a.P.V) h0 h1
    exact ⟨S,D',M,e,hS,k0,k1⟩
   ·split
    ·obtain ⟨D',e,k0,k1⟩:=zau6 (p0:=p0) (S:=(zda S a.P.V 0).1) (M:=(z9z M (zvd (upP p0 S D M) a.P.V)).1) (c:=a.C) (v:=a.P.V) h0 h1
     exact ⟨_,D',_,e,z0n hS _ (.inl rfl),k0,k1⟩
    ·exact ⟨S,D,M,rfl,hS,h0,h1⟩
theorem zarr (p:za) (q:List Asked) (a:Asked):z34 (zabg p q) a=(zabg (z34 p a).1 q,(z34 p a).2):=by
 unfold z34
 show (if a.P.Kind=2 then _ else if a.P.Kind=4 then (if p.Stake.Validators.Dead.get a.P.V=true then _ else _) else if p.Stake.Validators.Jailed.get a.P.V=true then _ else if (z9z p.Meter (zvd p a.P.V)).2=true then _ else _)=_
 by_cases k2:a.P.Kind=2
 ·rw[if_pos k2,if_pos k2];rfl
 ·rw[if_neg k2,if_neg k2]
  by_cases k4:a.P.Kind=4
  ·rw[if_pos k4,if_pos k4]
   by_cases hd:p.Stake.Validators.Dead.get a.P.V=true
   ·rw[if_pos hd,if_pos hd]
   ·rw[if_neg hd,if_neg hd];rfl
  ·rw[if_neg k4,if_neg k4]
   by_cases hj:p.Stake.Validators.Jailed.get a.P.V=true
   ·rw[if_pos hj,if_pos hj];rfl
   ·rw[if_neg hj,if_neg hj]
    by_cases ht:(z9z p.Meter (zvd p a.P.V)).2=true
    ·rw[if_pos ht,if_pos ht];rfl
    ·rw[if_neg ht,if_neg ht]
def z91 (t:za×A2 Bool×List Asked) (a:Asked):za×A2 Bool×List Asked :=
 if t.2.1.get a.C=true then (t.1,t.2.1.set a.C true,t.2.2++[a])
 else if (z34 t.1 a).2=true then ((z34 t.1 a).1,t.2.1,t.2.2)
 else ((z34 t.1 a).1,t.2.1.set a.C true,t.2.2++[a])
def zals (p0:za) (i:Nat) (t:za×A2 Bool×List Asked):Prop :=
 DealI p0 t.1∧t.2.2.length≤i∧(∀ c:Int,0≤c∧c < 2→t.2.1.get c=t.2.2.any (fun b=>b.C==c))∧∀ b,b∈t.2.2→b∈p0.Queue
theorem za6 {α:Type} (a:A2 α) {i j:Int} (y:α) (hi:0≤i∧i < 2) (hj:0≤j∧j < 2):(a.set i y).get j=if j=i then y else a.get j:=by
 rcases (show i=0∨i=1 by omega) with rfl | rfl<;>rcases (show j=0∨j=1 by omega) with rfl | rfl<;>rfl
theorem zajj {p0:za} {i:Nat} {t:za×A2 Bool×List Asked} (h:zals p0 i t) {a:Asked} (hc:0≤a.C∧a.C < 2) (ha:a∈p0.Queue):zals p0 (i+1) (z91 t a):=by
 obtain ⟨h1,h2,h3,h4⟩:=h
 have more:∀ p,DealI p0 p→zals p0 (i+1) (p,t.2.1.set a.C true,t.2.2++[a]):=by
  intro p hp
  refine ⟨hp,by simp;omega,fun c hcc=>?_,fun b hb=>?_⟩
  ·show (t.2.1.set a.C true).get c=(t.2.2++[a]).any (fun b=>b.C==c)
   rw[za6 _ _ hc hcc,List.any_append]
   by_cases e:c=a.C
   ·rw[if_pos e];simp[e]
   ·rw[if_neg e,h3 c hcc];simp[Ne.symm e]
  ·rcases List.mem_append.1 hb with hb | hb
   ·exact h4 b hb
   ·rw[List.mem_singleton.1 hb];exact ha
 unfold z91
 split
 ·exact more _ h1
 ·split
  ·exact ⟨zaps h1 a,by simp only[];omega,h3,h4⟩
  ·exact more _ (zaps h1 a)
theorem zau7 {p0 p:za} (hp:DealI p0 p) {q:za} {a:Asked} (ha:zvl q a=true):zalq p a:=by
 unfold zvl at ha
 simp only[yy7,decide_eq_true_eq,beq_iff_eq,Bool.not_eq_true',beq_eq_false_iff_ne] at ha
 obtain ⟨⟨⟨⟨c0,c1⟩,_⟩,hg⟩,hk⟩:=ha
 have hf:=zp8 hg
 exact ⟨⟨hf.2.2.2.2.1,hf.2.2.2.2.2.1⟩,⟨c0,c1⟩,by omega,hp.good.fit,hp.get⟩
theorem za06 {p0:za} {q:za} {now:Int} {d:za} {l:List Asked} {p:za} (hp:DealI p0 p) (hl:l.length*88≤140737488351232) (ha:∀ a,a∈l→zvl q a=true∧a∈p0.Queue) :
  zjy now l l.length 0 p d ⟨false,false⟩ []=some (now,(l.foldl z91 (p,⟨false,false⟩,[])).1,d,(l.foldl z91 (p,⟨false,false⟩,[])).2.2):=by
 rw[zjy]
 have:=zcd (F:=fun s:Int×(List Asked)×Int×Int×za×za×(A2 Bool)×(List Asked)=>(zhd s.1 s.2.1 s.2.2.1 s.2.2.2.1 s.2.2.2.2.1 s.2.2.2.2.2.1 s.2.2.2.2.2.2.1 s.2.2.2.2.2.2.2).run) l default
  (fun i (t:za×A2 Bool×List Asked)=>(now,l,(l.length:Int),(i:Int),t.1,d,t.2.1,t.2.2)) (zals p0) z91 (fun t=>(now,t.1,d,t.2.2)) (by
   intro t _
   simp only[zhd]
   rw[Tr.rf (by simp),Tr.rl]) (by
   intro i t hi hI
   obtain ⟨a1,a2⟩:=ha _ (zbk (l:=l) (k:=i) hi default)
   have hfit:=zau7 hI.1 a1
   refine ⟨?_,zajj hI hfit.c a2⟩
   have hlen:=hI.2.1
   simp only[zhd,yy4]
   rw[Tr.rt (by simpa using hi),Tr.rg ⟨by omega,by show (i:Int) < (l.length:Nat);omega⟩,Tr.rg hfit.c]
   unfold z91
   by_cases hw:t.2.1.get (l.getD i default).C=true
   ·rw[if_pos hw,Tr.rt hw,Tr.rt (show true=true from rfl),Tr.rt (show true=true from rfl),Tr.rt (show true=true from rfl)]
    rw[Tr.rg hfit.c,Tr.rg (by show (t.2.2.length+1)*88≤_;omega),Tr.rl,zl (by omega)]
   ·rw[if_neg hw,Tr.rf (Bool.eq_false_iff.2 hw),Tr.rb (za7y hfit)]
    simp only[]
    by_cases hd:(z34 t.1 (l.getD i default)).2=true
    ·rw[if_pos hd,Tr.rf (by rw[hd];rfl),Tr.rl,zl (by omega)]
    ·rw[if_neg hd,Tr.rt (by rw[Bool.eq_false_iff.2 hd];rfl),Tr.rg hfit.c,Tr.rg (by show (t.2.2.length+1)*88≤_;omega),Tr.rl,zl (by omega)]) (p,⟨false,false⟩,[]) ⟨hp,by simp,fun c hc=>by rcases (show c=0∨c=1 by omega) with rfl | rfl<;>rfl,fun b hb=>by cases hb⟩
 exact this
theorem zanu {x0 x2 x3:Int} {p d:za} {a:Asked} {q:List Asked} (hl:p.Queue.length≤9223372036854775807) :
  zkh x0 false x2 x3 p.Queue.length 0 d p a q=some (x0,p.Queue.any (fun b=>b.C==a.C),x2,x3,d,p,a,q):=by
 rw[zkh]
 have:=zb7 (F:=fun s:Int×Bool×Int×Int×Int×Int×za×za×Asked×(List Asked)=>(zey s.1 s.2.1 s.2.2.1 s.2.2.2.1 s.2.2.2.2.1 s.2.2.2.2.2.1 s.2.2.2.2.2.2.1 s.2.2.2.2.2.2.2.1 s.2.2.2.2.2.2.2.2.1 s.2.2.2.2.2.2.2.2.2).run) p.Queue.length
  (fun i b=>(x0,b,x2,x3,(p.Queue.length:Int),(i:Int),d,p,a,q)) (fun _ _=>True) (fun i b=>(x0,b||(p.Queue.drop i).any (fun b=>b.C==a.C),x2,x3,d,p,a,q)) (by
   intro b _
   simp only[zey]
   rw[Tr.rf (by simp),Tr.rl,List.drop_length];simp) (by
   intro i b hi _
   refine .inl ⟨b||((p.Queue.getD i default).C==a.C),?_,trivial,?_⟩
   ·simp only[zey,yy4]
    rw[Tr.rt (by simpa using hi),Tr.rg ⟨by omega,by show (i:Int) < (p.Queue.length:Nat);omega⟩,Tr.rl,zl (by omega)]
   ·rw[z6 hi default,List.any_cons,Bool.or_assoc]) 0 false (Nat.zero_le _) trivial
 simpa using this
theorem zanv {p0:za} {q:za} {now:Int} {d:za} {l:List Asked} {p:za} (hp:DealI p0 p) (hl:l.length*88≤140737488351232) (ha:∀ a,a∈l→zvl q a=true∧a∈p0.Queue) :
  zgf now l.length 0 d (zabg p []) l=some (now,d,zabg (l.foldl z91 (p,⟨false,false⟩,[])).1 (l.foldl z91 (p,⟨false,false⟩,[])).2.2):=by
 rw[zgf]
 have:=zcd (F:=fun s:Int×Int×Int×za×za×(List Asked)=>(zez s.1 s.2.1 s.2.2.1 s.2.2.2.1 s.2.2.2.2.1 s.2.2.2.2.2).run) l default
  (fun i (t:za×A2 Bool×List Asked)=>(now,(l.length:Int),(i:Int),d,zabg t.1 t.2.2,l)) (zals p0) z91 (fun t=>(now,d,zabg t.1 t.2.2)) (by
   intro t _
   simp only[zez]
   rw[Tr.rf (by simp),Tr.rl]) (by
   intro i t hi hI
   obtain ⟨a1,a2⟩:=ha _ (zbk (l:=l) (k:=i) hi default)
   have hfit:=zau7 hI.1 a1
   have hfitQ:zalq (zabg t.1 t.2.2) (l.getD i default):=⟨hfit.v,hfit.c,hfit.k,hfit.w,hfit.d⟩
   refine ⟨?_,zajj hI hfit.c a2⟩
   have hlen:=hI.2.1
   simp only[zez,yy4]
   rw[Tr.rt (by simpa using hi),Tr.rg ⟨by omega,by show (i:Int) < (l.length:Nat);omega⟩,Tr.rb (zanu (p:=zabg t.1 t.2.2) (by show t.2.2.length≤_;omega))]
   simp only[]
   have hw0:=hI.2.2.1 _ hfit.c
   unfold z91
   by_cases hw:t.2.1.get (l.getD i default).C=true
   ·have hw':(zabg t.1 t.2.2).Queue.any (fun b=>b.C==(l.getD i default).C)=true:=by
     show t.2.2.any _=true
     rw[← hw0];exact hw
    rw[if_pos hw,hw',zo9,Tr.rt (show true=true from rfl),Tr.rg (by show (t.2.2.length+1)*88≤_;omega),Tr.rl,zl (by omega)]
    rfl
   ·have hw':(zabg t.1 t.2.2).Queue.any (fun b=>b.C==(l.getD i default).C)=false:=by
     show t.2.2.any _=false
     rw[← hw0];exact Bool.eq_false_iff.2 hw
    rw[if_neg hw,hw',zpa,Tr.rb (zarq hfitQ),zarr]
    simp only[]
    by_cases hd:(z34 t.1 (l.getD i default)).2=true
    ·rw[if_pos hd,hd,zo9,Tr.rl,zl (by omega)]
    ·rw[if_neg hd,Bool.eq_false_iff.2 hd,zpa,Tr.rg (by show (t.2.2.length+1)*88≤_;omega),Tr.rl,zl (by omega)]
     rfl) (p,⟨false,false⟩,[]) ⟨hp,by simp,fun c hc=>by rcases (show c=0∨c=1 by omega) with rfl | rfl<;>rfl,fun b hb=>by cases hb⟩
 exact this
