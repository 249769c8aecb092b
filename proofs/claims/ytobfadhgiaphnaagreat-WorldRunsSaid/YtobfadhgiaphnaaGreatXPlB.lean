/-
  The plain lemmas.
-/
import Derived.Test.YtobfadhgiaphnaaGreatXAbInsert
import Derived.Test.YtobfadhgiaphnaaGreatXAbSort2
import Derived.Sort.LotA
import Derived.Test.YtobfadhgiaphnaaGreatXFBank
import Derived.Test.YtobfadhgiaphnaaGreatXFCodec
import Derived.Test.YtobfadhgiaphnaaGreatXFCons
import Derived.Test.YtobfadhgiaphnaaGreatXFLine
import Derived.Test.YtobfadhgiaphnaaGreatXFProv
import Derived.Test.YtobfadhgiaphnaaGreatXFRefA
import Derived.Test.YtobfadhgiaphnaaGreatXFRefB
import Derived.Test.YtobfadhgiaphnaaGreatXFRefC
import Derived.Test.YtobfadhgiaphnaaGreatXFRefP
import Derived.Test.YtobfadhgiaphnaaGreatXFStakeA
import Derived.Test.YtobfadhgiaphnaaGreatXFStakeB
import Derived.Test.YtobfadhgiaphnaaGreatXPlA
namespace Go.Proofs.YtobfadhgiaphnaaGreat.Ab
open Go Go.RowKit
set_option linter.unusedVariables false
set_option linter.unusedSimpArgs false
theorem zr8 {α:Type} {l:List α} {i:Nat} (h:i < l.length) (d:α):l.getD i d=l[i]:=by rw[yy0,yy3 h];rfl
theorem z1o {α:Type} {l:List α} {i:Nat} (h:i < l.length) (d:α):l.set i (l.getD i d)=l:=by rw[zr8 h];exact List.set_getElem_self h
theorem z1p {σ ρ τ α:Type} {F:σ→Option (σ⊕ρ)} (l:List α) (d:α) (mk:Nat→List α→τ→σ) (I:Nat→τ→Prop) (f:α→α) (g:τ→α→τ) (out:List α→τ→ρ)
  (hend:∀ W t,W.length=l.length→I l.length t→F (mk l.length W t)=some (.inr (out W t)))
  (hstep:∀ i W t,i < l.length→W.length=l.length→W.getD i d=l.getD i d→I i t→F (mk i W t)=some (.inl (mk (i+1) (W.set i (f (l.getD i d))) (g t (l.getD i d))))∧I (i+1) (g t (l.getD i d))) (t:τ) (h0:I 0 t) :
  zbp F (mk 0 l t)=some (out (l.map f) (l.foldl g t)):=by
 have:=zbx (F:=F) l.length (fun i (s:List α×τ)=>mk i s.1 s.2) (fun i s=>s.1=(l.take i).map f++l.drop i∧I i s.2) (fun i s=>out (l.map f) ((l.drop i).foldl g s.2)) (by
   rintro ⟨W,t⟩ ⟨h1,h2⟩
   simp only at h1 h2
   rw[hend W t (by rw[h1];simp) h2,List.drop_length,h1,List.take_length,List.drop_length,List.append_nil];rfl) (by
   rintro i ⟨W,t⟩ hi ⟨h1,h2⟩
   simp only at h1 h2
   have hs:=z2 (l:=l) (k:=i) hi d
   have hW:W.length=l.length:=by rw[h1];simp;omega
   have ht:l.take (i+1)=l.take i++[l.getD i d]:=by rw[List.take_succ_eq_append_getElem hi,zr8 hi]
   have hlen:((l.take i).map f).length=i:=by simp;omega
   have hg:W.getD i d=l.getD i d:=by
    rw[h1,yy0,List.getElem?_append_right (by omega),hlen,Nat.sub_self,hs];rfl
   obtain ⟨k1,k2⟩:=hstep i W t hi hW hg h2
   refine .inl ⟨(W.set i (f (l.getD i d)),g t (l.getD i d)),k1,⟨?_,k2⟩,?_⟩
   ·show W.set i _=_
    rw[h1,List.set_append_right _ _ (by omega),hlen,Nat.sub_self,hs,List.set_cons_zero,ht,List.map_append,List.append_assoc];rfl
   ·rw[hs,List.foldl_cons]) 0 (l,t) (Nat.zero_le _) ⟨by simp,h0⟩
 simpa using this
def relW (c h:Int) (w:Wait):Wait:={ w with h0:=if c=0∧w.h0≤h then 0 else w.h0,h1:=if c=1∧w.h1≤h then 0 else w.h1 }
def zlk (s:Stake) (c h:Int):Stake:={ s with Waits:=s.Waits.map (relW c h) }
theorem zaxh {c h:Int} {w:Wait} (hc:c < 0∨2≤c):relW c h w=w:=by unfold relW;rw[if_neg (by omega),if_neg (by omega)]
theorem zai1 {s:Stake} {c h:Int} (hc:c < 0∨2≤c):zlk s c h=s:=by
 unfold zlk
 have:s.Waits.map (relW c h)=s.Waits:=by
  rw[show relW c h=id from funext fun w=>zaxh hc,List.map_id]
 rw[this]
theorem z7q {s:Stake} {c h:Int} (hl:s.Waits.length*64≤140737488351232):zhp s c h=some (zlk s c h):=by
 rw[zhp,zso]
 by_cases hc:c < 0∨2≤c
 ·rw[Tr.rt (by simpa using hc),Tr.rl,zai1 hc]
 ·rw[Tr.rf (by simp only[Bool.or_eq_false_iff,yy8];omega),Tr.rb (z57 hl)]
  have key:∀ z:Stake,zlt c h s.Waits.length 0 { s with Waits:=s.Waits } z=some (zlk s c h,z):=by
   intro z
   rw[zlt]
   refine z1p (F:=fun s:Int×Int×Int×Int×Stake×Stake=>(zfc s.1 s.2.1 s.2.2.1 s.2.2.2.1 s.2.2.2.2.1 s.2.2.2.2.2).run) s.Waits default
    (fun i W (_:Unit)=>(c,h,(s.Waits.length:Int),(i:Int),{ s with Waits:=W },z)) (fun _ _=>True) (relW c h) (fun t _=>t) (fun W _=>({ s with Waits:=W },z)) ?_ ?_ () trivial
   ·intro W t hW _
    simp only[zfc];rw[Tr.rf (by simp),Tr.rl]
   ·intro i W t hi hW hg _
    refine ⟨?_,trivial⟩
    simp only[zfc]
    rw[yy4,hg]
    obtain ⟨w,hw⟩:∃ w,w=s.Waits.getD i default:=⟨_,rfl⟩
    rw[← hw] at hg ⊢
    rw[Tr.rt (by simpa using hi),Tr.rg ⟨by omega,by rw[z5];omega⟩,Tr.rg (by omega)]
    by_cases hp:A2.get ⟨w.h0,w.h1⟩ c≤h
    ·rw[Tr.rt (by simpa using hp),Tr.rg ⟨by omega,by rw[z5];omega⟩,Tr.rg (by omega),Tr.rl,zl (by omega)]
     congr 4
     unfold relW
     unfold A2.get at hp
     obtain rfl | rfl:c=0∨c=1:=by omega
     ·simp at hp;simp[hp]
     ·simp at hp;simp[hp]
    ·have e:relW c h w=w:=by
      unfold relW
      unfold A2.get at hp
      obtain rfl | rfl:c=0∨c=1:=by omega
      ·simp at hp
       rw[if_neg (by omega),if_neg (by omega)]
      ·simp at hp
       rw[if_neg (by omega),if_neg (by omega)]
     rw[Tr.rf (by simpa using hp),Tr.rl,zl (by omega),e,← hg,z1o (by omega)]
  rw[Tr.rb (key _),Tr.rl]
theorem z59 {s:Stake} {c h:Int} (hl:s.Waits.length*64≤140737488351232):zpf s c h=some (zlk s c h):=by
 rw[zpf,zx2,Tr.rb (zww hl)]
 have inner:∀ (W:List Wait) (i:Nat) (n:Int) (z:Stake),i < W.length→W.length=s.Waits.length →
   zop c h i n i (⟨(W.getD i default).h0,(W.getD i default).h1⟩:A2 Int) 0 z { s with Waits:=W }=some (c,h,n,(i:Int),z,{ s with Waits:=W.set i (relW c h (W.getD i default)) }):=by
  intro W i n z hi hlen
  rw[zop]
  obtain ⟨w,hw⟩:∃ w,w=W.getD i default:=⟨_,rfl⟩
  rw[← hw]
  have e0:∀ V:List Wait,V.length=W.length→V.getD i default=w→(fun s:Int×Int×Int×Int×Int×(A2 Int)×Int×Stake×Stake=>(zc6 s.1 s.2.1 s.2.2.1 s.2.2.2.1 s.2.2.2.2.1 s.2.2.2.2.2.1 s.2.2.2.2.2.2.1 s.2.2.2.2.2.2.2.1 s.2.2.2.2.2.2.2.2).run) (c,h,(i:Int),n,(i:Int),(⟨w.h0,w.h1⟩:A2 Int),0,z,{ s with Waits:=V }) =
    some (.inl (c,h,(i:Int),n,(i:Int),(⟨w.h0,w.h1⟩:A2 Int),1,z,{ s with Waits:=V.set i { w with h0:=if c=0∧w.h0≤h then 0 else w.h0 } })):=by
   intro V hV hg
   simp only[zc6]
   rw[yy4,hg,Tr.rt (by rfl),Tr.rg (by omega)]
   by_cases hp:c=0∧w.h0≤h
   ·rw[Tr.rt (by rw[hp.1];simpa[A2.get] using hp.2),Tr.rg ⟨by omega,by rw[z5];omega⟩,Tr.rg (by omega),Tr.rl,if_pos hp]
    rfl
   ·rw[Tr.rf (by rw[Bool.eq_false_iff];intro k;apply hp;simp[A2.get] at k;omega),Tr.rl,if_neg hp]
    have e:({ w with h0:=w.h0 }:Wait)=w:=rfl
    rw[e,← hg,z1o (by omega)]
    rfl
  have e1:∀ V:List Wait,∀ u:Wait,V.length=W.length→V.getD i default=u→u.h1=w.h1→(fun s:Int×Int×Int×Int×Int×(A2 Int)×Int×Stake×Stake=>(zc6 s.1 s.2.1 s.2.2.1 s.2.2.2.1 s.2.2.2.2.1 s.2.2.2.2.2.1 s.2.2.2.2.2.2.1 s.2.2.2.2.2.2.2.1 s.2.2.2.2.2.2.2.2).run) (c,h,(i:Int),n,(i:Int),(⟨w.h0,w.h1⟩:A2 Int),1,z,{ s with Waits:=V }) =
    some (.inl (c,h,(i:Int),n,(i:Int),(⟨w.h0,w.h1⟩:A2 Int),2,z,{ s with Waits:=V.set i { u with h1:=if c=1∧w.h1≤h then 0 else w.h1 } })):=by
   intro V u hV hg hu
   simp only[zc6]
   rw[yy4,hg,Tr.rt (by rfl),Tr.rg (by omega)]
   by_cases hp:c=1∧w.h1≤h
   ·rw[Tr.rt (by rw[hp.1];simpa[A2.get] using hp.2),Tr.rg ⟨by omega,by rw[z5];omega⟩,Tr.rg (by omega),Tr.rl,if_pos hp]
    rfl
   ·rw[Tr.rf (by rw[Bool.eq_false_iff];intro k;apply hp;simp[A2.get] at k;omega),Tr.rl,if_neg hp]
    have e:({ u with h1:=w.h1 }:Wait)=u:=by rw[← hu]
    rw[e,← hg,z1o (by omega)]
    rfl
  have e2:∀ V:List Wait,(fun s:Int×Int×Int×Int×Int×(A2 Int)×Int×Stake×Stake=>(zc6 s.1 s.2.1 s.2.2.1 s.2.2.2.1 s.2.2.2.2.1 s.2.2.2.2.2.1 s.2.2.2.2.2.2.1 s.2.2.2.2.2.2.2.1 s.2.2.2.2.2.2.2.2).run) (c,h,(i:Int),n,(i:Int),(⟨w.h0,w.h1⟩:A2 Int),2,z,{ s with Waits:=V })=some (.inr (c,h,n,(i:Int),z,{ s with Waits:=V })):=by
   intro V
   simp only[zc6]
   rw[Tr.rf (by rfl),Tr.rl]
  refine (za1 (e0 W rfl hw.symm)).trans ((za1 (e1 _ { w with h0:=if c=0∧w.h0≤h then 0 else w.h0 } (by rw[List.length_set]) ?_ rfl)).trans ((zbo (e2 _)).trans ?_))
  ·rw[zr8 (by rw[List.length_set];exact hi),List.getElem_set_self]
  ·rw[List.set_set];rfl
 have key:∀ z:Stake,zoq c h s.Waits.length 0 z s=some (z,zlk s c h):=by
  intro z
  rw[zoq]
  refine z1p (F:=fun s:Int×Int×Int×Int×Stake×Stake=>(zhy s.1 s.2.1 s.2.2.1 s.2.2.2.1 s.2.2.2.2.1 s.2.2.2.2.2).run) s.Waits default
   (fun i W (_:Unit)=>(c,h,(s.Waits.length:Int),(i:Int),z,{ s with Waits:=W })) (fun _ _=>True) (relW c h) (fun t _=>t) (fun W _=>(z,{ s with Waits:=W })) ?_ ?_ () trivial
  ·intro W t hW _
   simp only[zhy];rw[Tr.rf (by simp),Tr.rl]
  ·intro i W t hi hW hg _
   refine ⟨?_,trivial⟩
   simp only[zhy]
   rw[yy4,Tr.rt (by simpa using hi),Tr.rg ⟨by omega,by rw[z5];omega⟩,Tr.rb (inner W i _ z (by omega) hW),Tr.rl]
   simp only[]
   rw[hg,zl (by omega)]
 rw[Tr.rb (key _),Tr.rl]
def dueW (time:Int) (w:Wait):Bool:=(decide (w.Due≤time)&&w.h0==0)&&w.h1==0
def payF (time:Int) (t:Bank×List Wait×List Int) (w:Wait):Bank×List Wait×List Int :=
 if dueW time w=true then ((payB t.1 w.D w.Amount).1,t.2.1,t.2.2++[w.Number]) else (t.1,t.2.1++[w],t.2.2)
def payS (s:Stake) (time:Int):Stake×List Int×Int :=
 if ¬ GoodS s then (s,[],2) else ({ s with Bank:=(s.Waits.foldl (payF time) (s.Bank,[],[])).1,Waits:=(s.Waits.foldl (payF time) (s.Bank,[],[])).2.1 },(s.Waits.foldl (payF time) (s.Bank,[],[])).2.2,0)
theorem zary {b:Bank} {d n:Int} (hg:zhi b) (hd:0≤d∧d < 4) (hn:inA n) (hw:n≤b.Waiting):(payB b d n).2=0∧zhi (payB b d n).1∧(payB b d n).1.Waiting=b.Waiting - n∧(payB b d n).1.Bonded=b.Bonded∧(payB b d n).1.Burnt=b.Burnt:=by
 have e:payB b d n=zch b 5 d n:=by unfold payB;rw[if_neg (by omega)]
 rw[e,zagt (f:=5) (t:=d) hg hn.1 hn.2 hw]
 refine ⟨rfl,(ztp (.inr (.inr (.inl ⟨rfl,by omega⟩))) hg hn.1 hw).1,?_⟩
 obtain rfl | rfl | rfl | rfl:d=0∨d=1∨d=2∨d=3:=by omega
 all_goals simp[zmh,bkA,plA,A7.get,A7.set]
theorem z4d {next:Int}:∀ {l:List Wait} {p:Int} (i:Nat),zgw next p l→∃ q,zgw next q (l.drop i)
 | l,p,0,h=>⟨p,h⟩
 | [],p,_+1,h=>⟨p,trivial⟩
 | w::l,p,i+1,h=>z4d i h.2
theorem zwx {next:Int}:∀ {l:List Wait} {p:Int},zgw next p l→0≤ztu l
 | [],_,_=>Int.le_refl 0
 | w::l,p,h=>by
  have h1:=zwx h.2
  have h2:=h.1.2.2.2.2.2.2.1
  unfold inA at h2
  simp only[ztu];omega
def PayI (s:Stake) (i:Nat) (t:Bank×List Wait×List Int):Prop :=
 zhi t.1∧ztu (s.Waits.drop i)≤t.1.Waiting∧t.2.1.length≤i∧t.2.2.length≤i∧t.1.Bonded=s.Bank.Bonded∧t.1.Burnt=s.Bank.Burnt
theorem zai2 {s:Stake} (hg:GoodS s) {time:Int} {i:Nat} (hi:i < s.Waits.length) {t:Bank×List Wait×List Int} (h:PayI s i t) :
  PayI s (i+1) (payF time t (s.Waits.getD i default))∧(payB t.1 (s.Waits.getD i default).D (s.Waits.getD i default).Amount).2=0:=by
 obtain ⟨h1,h2,h3,h4,h5,h6⟩:=h
 have hs:=z2 (l:=s.Waits) (k:=i) hi default
 obtain ⟨q,hq⟩:=z4d i hg.2.2.2.1
 rw[hs] at hq h2
 obtain ⟨w,hw⟩:∃ w,w=s.Waits.getD i default:=⟨_,rfl⟩
 rw[← hw] at hq h2 ⊢
 have hn:=zwx hq.2
 obtain ⟨_,_,d0,d1,_,_,ha,_,_⟩:=hq.1
 simp only[ztu] at h2
 obtain ⟨p1,p2,p3,p4,p5⟩:=zary h1 ⟨d0,d1⟩ ha (by omega)
 refine ⟨?_,p1⟩
 unfold payF
 by_cases hd:dueW time w=true
 ·rw[if_pos hd]
  exact ⟨p2,by show _≤(payB t.1 w.D w.Amount).1.Waiting;omega,by show t.2.1.length≤_;omega,by show (t.2.2++[w.Number]).length≤_;simp;omega,p4.trans h5,p5.trans h6⟩
 ·rw[if_neg hd]
  unfold inA at ha
  exact ⟨h1,by show _≤t.1.Waiting;omega,by show (t.2.1++[w]).length≤_;simp;omega,by show t.2.2.length≤_;omega,h5,h6⟩
theorem zaen {s:Stake} (hg:GoodS s):PayI s 0 (s.Bank,[],[]):=⟨hg.1,by rw[List.drop_zero,hg.2.2.2.2.2.1];exact Int.le_refl _,by simp,by simp,rfl,rfl⟩
theorem zbcw {s:Stake} {time:Int}:zug s time=some (payS s time):=by
 rw[zug,z3t,Tr.rb (z05 s)]
 unfold payS
 by_cases hg:GoodS s
 ·rw[if_neg (by simpa using hg),Tr.rf (by simpa using hg)]
  have h60:=hg.2.1.2.2
  have key:∀ z:Stake,zsq time s.Waits s.Waits.length 0 s z [] []=some (.inr ({ s with Bank:=(s.Waits.foldl (payF time) (s.Bank,[],[])).1 },z,(s.Waits.foldl (payF time) (s.Bank,[],[])).2.1,(s.Waits.foldl (payF time) (s.Bank,[],[])).2.2)):=by
   intro z
   rw[zsq]
   refine zb1 (F:=fun s:Int×(List Wait)×Int×Int×Stake×Stake×(List Wait)×(List Int)=>(zk0 s.1 s.2.1 s.2.2.1 s.2.2.2.1 s.2.2.2.2.1 s.2.2.2.2.2.1 s.2.2.2.2.2.2.1 s.2.2.2.2.2.2.2).run) s.Waits default
    (fun i t=>(time,s.Waits,(s.Waits.length:Int),(i:Int),{ s with Bank:=t.1 },z,t.2.1,t.2.2)) (PayI s) (payF time) (fun t=>.inr ({ s with Bank:=t.1 },z,t.2.1,t.2.2)) ?_ ?_ (s.Bank,[],[]) (zaen hg)
   ·intro t _
    simp only[zk0];rw[Tr.rf (by simp),Tr.rl]
   ·intro i t hi hI
    obtain ⟨k1,k2⟩:=zai2 hg (time:=time) hi hI
    refine ⟨?_,k1⟩
    obtain ⟨h1,h2,h3,h4,h5,h6⟩:=hI
    simp only[zk0]
    rw[yy4]
    obtain ⟨w,hw⟩:∃ w,w=s.Waits.getD i default:=⟨_,rfl⟩
    rw[← hw] at k2 ⊢
    have hc:((decide (w.Due > time))||(!((w.h0==0)&&((w.h1==0)&&true)))) = !dueW time w:=by
     unfold dueW
     rw[Bool.eq_iff_iff]
     simp
     omega
    rw[Tr.rt (by simpa using hi),Tr.rg ⟨by omega,by rw[z5];omega⟩]
    unfold payF
    by_cases hd:dueW time w=true
    ·rw[Tr.rf (by rw[hc,hd];rfl),Tr.rb za3z,Tr.rf (by simpa using k2),Tr.rg (by simp only[zey,yy5];omega),Tr.rl,if_pos hd,zl (by omega)]
    ·rw[Tr.rt (by rw[hc];simpa using hd),Tr.rg (by simp only[z5,yy5];omega),Tr.rl,if_neg hd,zl (by omega)]
  rw[Tr.rj (key _),Tr.rl]
 ·rw[if_pos hg,Tr.rt (by simpa using hg),Tr.rl]
theorem zarz {s:Stake} {time:Int}:zru s time=some (payS s time):=by
 rw[zru,z0o,Tr.rb (ztq s)]
 unfold payS
 by_cases hg:GoodS s
 ·rw[if_neg (by simpa using hg),Tr.rf (by simpa using hg),Tr.rb (z9o hg.fit)]
  have h60:=hg.2.1.2.2
  have key:∀ z:Stake,zqw time s.Waits s.Waits.length 0 z { s with Waits:=[] } []=some (z,{ s with Bank:=(s.Waits.foldl (payF time) (s.Bank,[],[])).1,Waits:=(s.Waits.foldl (payF time) (s.Bank,[],[])).2.1 },(s.Waits.foldl (payF time) (s.Bank,[],[])).2.2):=by
   intro z
   rw[zqw]
   refine zb1 (F:=fun s:Int×(List Wait)×Int×Int×Stake×Stake×(List Int)=>(zjf s.1 s.2.1 s.2.2.1 s.2.2.2.1 s.2.2.2.2.1 s.2.2.2.2.2.1 s.2.2.2.2.2.2).run) s.Waits default
    (fun i t=>(time,s.Waits,(s.Waits.length:Int),(i:Int),z,{ s with Bank:=t.1,Waits:=t.2.1 },t.2.2)) (PayI s) (payF time) (fun t=>(z,{ s with Bank:=t.1,Waits:=t.2.1 },t.2.2)) ?_ ?_ (s.Bank,[],[]) (zaen hg)
   ·intro t _
    simp only[zjf];rw[Tr.rf (by simp),Tr.rl]
   ·intro i t hi hI
    obtain ⟨k1,k2⟩:=zai2 hg (time:=time) hi hI
    refine ⟨?_,k1⟩
    obtain ⟨h1,h2,h3,h4,h5,h6⟩:=hI
    simp only[zjf]
    rw[yy4]
    obtain ⟨w,hw⟩:∃ w,w=s.Waits.getD i default:=⟨_,rfl⟩
    rw[← hw] at k2 ⊢
    rw[Tr.rt (by simpa using hi),Tr.rg ⟨by omega,by rw[z5];omega⟩]
    unfold payF
    by_cases hd:dueW time w=true
    ·rw[Tr.rt (b:=(decide (w.Due≤time)&&w.h0==0)&&w.h1==0) hd,Tr.rb zarq,Tr.rg (by simp only[zey,yy5];omega),Tr.rl,if_pos hd,zl (by omega)]
    ·rw[Tr.rf (by unfold dueW at hd;simpa using hd),Tr.rg (by simp only[z5,yy5];omega),Tr.rl,if_neg hd,zl (by omega)]
  rw[Tr.rb (key _),Tr.rl]
 ·rw[if_pos hg,Tr.rt (by simpa using hg),Tr.rl]
def hitW (v h:Int) (w:Wait):Bool:=w.V==v&&decide (w.Height≥h)
def slN (v h f:Int) (w:Wait):Int:=if hitW v h w=true then (zp7 w.Amount f).1 else 0
def slW (v h f:Int) (w:Wait):Wait:=if hitW v h w=true then { w with Amount:=w.Amount - (zp7 w.Amount f).1 } else w
def sumN (v h f:Int) (l:List Wait):Int:=l.foldl (fun t w=>t+slN v h f w) 0
def zgs (s:Stake) (v f:Int):Int:=(zp7 (s.Validators.Tokens.get v) f).1
def zjr (s:Stake) (v h f:Int):Stake×Int×Int :=
 if ze2 s 0 v≠0 then (s,0,ze2 s 0 v) else if f < 0∨1000 < f then (s,0,2)
 else (⟨(zagr s.Bank (zgs s v f) (sumN v h f s.Waits)).1,{ s.Validators with Tokens:=s.Validators.Tokens.set v (s.Validators.Tokens.get v - zgs s v f),Lost:=s.Validators.Lost.set v (s.Validators.Lost.get v+(zgs s v f+sumN v h f s.Waits)) },s.Shares,s.Waits.map (slW v h f),s.Next⟩,
  zgs s v f+sumN v h f s.Waits,0)
theorem zo1 {n f:Int} (hn:inA n) (hf:0≤f∧f≤1000):(zp7 n f).2=0∧0≤(zp7 n f).1∧(zp7 n f).1≤n:=by
 obtain ⟨_,h2,h3⟩:=zarn hn.1 hn.2 hf.1 hf.2
 have e:zp7 n f=(n*f / 1000,0):=by
  unfold zp7
  rw[if_neg (by omega)]
 rw[e]
 generalize n*f=x at h2 h3
 exact ⟨rfl,by show 0≤x / 1000;omega,by show x / 1000≤n;omega⟩
theorem zar0 {v h f:Int} {w:Wait} (hw:inA w.Amount) (hf:0≤f∧f≤1000):0≤slN v h f w∧slN v h f w≤w.Amount:=by
 unfold slN
 by_cases hh:hitW v h w=true
 ·rw[if_pos hh];exact (zo1 hw hf).2
 ·rw[if_neg hh];unfold inA at hw;omega
def SlI (s:Stake) (i:Nat) (t:Int):Prop:=0≤t∧t+ztu (s.Waits.drop i)≤s.Bank.Waiting
theorem zagy {s:Stake} (hg:GoodS s) {v h f:Int} (hf:0≤f∧f≤1000) {i:Nat} (hi:i < s.Waits.length) {t:Int} (hI:SlI s i t) :
  SlI s (i+1) (t+slN v h f (s.Waits.getD i default))∧inA (s.Waits.getD i default).Amount∧t+slN v h f (s.Waits.getD i default)≤400000:=by
 obtain ⟨h1,h2⟩:=hI
 have hs:=z2 (l:=s.Waits) (k:=i) hi default
 obtain ⟨q,hq⟩:=z4d i hg.2.2.2.1
 rw[hs] at hq h2
 obtain ⟨w,hw⟩:∃ w,w=s.Waits.getD i default:=⟨_,rfl⟩
 rw[← hw] at hq h2 ⊢
 have hn:=zwx hq.2
 have ha:=hq.1.2.2.2.2.2.2.1
 have hb:=zar0 (v:=v) (h:=h) ha hf
 have hw4:okN s.Bank.Waiting:=hg.1.2.2.2.2.2.1
 unfold okN at hw4
 simp only[ztu] at h2
 exact ⟨⟨by omega,by omega⟩,ha,by omega⟩
theorem zabx {s:Stake} (hg:GoodS s):SlI s 0 0:=⟨by omega,by rw[List.drop_zero,hg.2.2.2.2.2.1];omega⟩
theorem zak7 {s:Stake} (hg:GoodS s) {v h f:Int} (hf:0≤f∧f≤1000):0≤sumN v h f s.Waits∧sumN v h f s.Waits≤s.Bank.Waiting:=by
 have key:∀ n,n≤s.Waits.length→SlI s n ((s.Waits.take n).foldl (fun t w=>t+slN v h f w) 0):=by
  intro n
  induction n with
  | zero=>intro _;exact zabx hg
  | succ n ih =>
   intro hn
   rw[List.take_succ_eq_append_getElem (by omega),List.foldl_append,List.foldl_cons,List.foldl_nil,← zr8 (by omega) default]
   exact (zagy hg hf (by omega) (ih (by omega))).1
 have:=key s.Waits.length (Nat.le_refl _)
 rw[List.take_length] at this
 obtain ⟨h1,h2⟩:=this
 rw[List.drop_length] at h2
 simp only[ztu,Int.add_zero] at h2
 exact ⟨h1,h2⟩
theorem z06 {s:Stake} (hg:GoodS s) {v:Int} (hv:0≤v∧v < 6):s.Validators.Tokens.get v≤s.Bank.Bonded∧s.Validators.Lost.get v≤s.Bank.Burnt:=by
 have e1:=hg.2.2.2.2.1
 have e2:=hg.2.2.2.2.2.2
 have e:∀ i:Int,0≤i→i < 6→(0≤s.Validators.Tokens.get i∧s.Validators.Tokens.get i≤1125899906842624)∧(0≤s.Validators.Lost.get i∧s.Validators.Lost.get i≤1125899906842624):=fun i h0 h1=>by
  obtain ⟨⟨k1,_,k3,_⟩,_⟩:=hg.at (v:=i) ⟨h0,h1⟩
  exact ⟨k1,k3⟩
 have t0:(0≤s.Validators.Tokens.x0∧s.Validators.Tokens.x0≤1125899906842624)∧(0≤s.Validators.Lost.x0∧s.Validators.Lost.x0≤1125899906842624):=e 0 (by omega) (by omega)
 have t1:(0≤s.Validators.Tokens.x1∧s.Validators.Tokens.x1≤1125899906842624)∧(0≤s.Validators.Lost.x1∧s.Validators.Lost.x1≤1125899906842624):=e 1 (by omega) (by omega)
 have t2:(0≤s.Validators.Tokens.x2∧s.Validators.Tokens.x2≤1125899906842624)∧(0≤s.Validators.Lost.x2∧s.Validators.Lost.x2≤1125899906842624):=e 2 (by omega) (by omega)
 have t3:(0≤s.Validators.Tokens.x3∧s.Validators.Tokens.x3≤1125899906842624)∧(0≤s.Validators.Lost.x3∧s.Validators.Lost.x3≤1125899906842624):=e 3 (by omega) (by omega)
 have t4:(0≤s.Validators.Tokens.x4∧s.Validators.Tokens.x4≤1125899906842624)∧(0≤s.Validators.Lost.x4∧s.Validators.Lost.x4≤1125899906842624):=e 4 (by omega) (by omega)
 have t5:(0≤s.Validators.Tokens.x5∧s.Validators.Tokens.x5≤1125899906842624)∧(0≤s.Validators.Lost.x5∧s.Validators.Lost.x5≤1125899906842624):=e 5 (by omega) (by omega)
 unfold sum6 at e1 e2
 obtain rfl | rfl | rfl | rfl | rfl | rfl:v=0∨v=1∨v=2∨v=3∨v=4∨v=5:=by omega
 ·show s.Validators.Tokens.x0≤_∧s.Validators.Lost.x0≤_;omega
 ·show s.Validators.Tokens.x1≤_∧s.Validators.Lost.x1≤_;omega
 ·show s.Validators.Tokens.x2≤_∧s.Validators.Lost.x2≤_;omega
 ·show s.Validators.Tokens.x3≤_∧s.Validators.Lost.x3≤_;omega
 ·show s.Validators.Tokens.x4≤_∧s.Validators.Lost.x4≤_;omega
 ·show s.Validators.Tokens.x5≤_∧s.Validators.Lost.x5≤_;omega
theorem zam2 {b:Bank} {x y:Int} (hg:zhi b) (h0:0≤x) (h1:x≤b.Bonded) (h2:0≤y) (h3:y≤b.Waiting) :
  zagr b x y=(⟨b.Free,b.Bonded - x,b.Waiting - y,b.Burnt+x+y⟩,0)∧zhi (zagr b x y).1:=by
 have p1:okN b.Bonded:=hg.2.2.2.2.1
 have p2:okN b.Waiting:=hg.2.2.2.2.2.1
 unfold okN at p1 p2
 have e1:=zagt (f:=4) (t:=6) (n:=x) hg h0 (by omega) h1
 have g1:=(ztp (f:=4) (t:=6) (n:=x) (.inr (.inr (.inr (.inl ⟨rfl,rfl⟩)))) hg h0 h1).1
 have e3:(plA (zmh b 4 6 x)).get 5=b.Waiting:=by simp[zmh,bkA,plA,A7.get,A7.set]
 have e2:=zagt (f:=5) (t:=6) (n:=y) g1 h2 (by omega) (by rw[e3];exact h3)
 have g2:=(ztp (f:=5) (t:=6) (n:=y) (.inr (.inr (.inr (.inr ⟨rfl,rfl⟩)))) g1 h2 (by rw[e3];exact h3)).1
 have e:zagr b x y=(zmh (zmh b 4 6 x) 5 6 y,0):=by
  unfold zagr
  rw[e1]
  simp only[e2]
  rw[if_neg (by simp),if_neg (by simp)]
 rw[e]
 refine ⟨?_,g2⟩
 simp[zmh,bkA,plA,A7.get,A7.set]
theorem zagz {s:Stake} {v h f:Int}:zia s v h f=some (zjr s v h f):=by
 rw[zia,zxx,Tr.rb (z1m _ _ _)]
 unfold zjr
 by_cases h0:ze2 s 0 v=0
 ·obtain ⟨hg,hd,hv⟩:=zi2 h0
  obtain ⟨⟨hT,hS,hL,h4,h5⟩,_,_⟩:=hg.at hv
  rw[if_neg (by simpa using h0),Tr.rf (by simpa using h0),Tr.rg hv,Tr.rb zaro]
  by_cases hf:f < 0∨1000 < f
  ·have e:zp7 (s.Validators.Tokens.get v) f=(0,2):=by unfold zp7;rw[if_pos (by omega)]
   rw[if_pos hf,e,Tr.rt (by rfl),Tr.rl]
  ·have hf':0≤f∧f≤1000:=by omega
   obtain ⟨b1,b2,b3⟩:=zo1 hT hf'
   rw[if_neg hf,Tr.rf (by simpa using b1),Tr.rb (z57 hg.fit)]
   have key:∀ z:Stake,zoc v h f v (zp7 (s.Validators.Tokens.get v) f).1 0 s.Waits.length 0 s z s.Waits=some (v,(zp7 (s.Validators.Tokens.get v) f).1,sumN v h f s.Waits,s,z,s.Waits.map (slW v h f)):=by
    intro z
    rw[zoc]
    refine z1p (F:=fun s:Int×Int×Int×Int×Int×Int×Int×Int×Stake×Stake×(List Wait)=>(zhq s.1 s.2.1 s.2.2.1 s.2.2.2.1 s.2.2.2.2.1 s.2.2.2.2.2.1 s.2.2.2.2.2.2.1 s.2.2.2.2.2.2.2.1 s.2.2.2.2.2.2.2.2.1 s.2.2.2.2.2.2.2.2.2.1 s.2.2.2.2.2.2.2.2.2.2).run) s.Waits default
     (fun i W t=>(v,h,f,v,(zp7 (s.Validators.Tokens.get v) f).1,t,(s.Waits.length:Int),(i:Int),s,z,W)) (SlI s) (slW v h f) (fun t w=>t+slN v h f w) (fun W t=>(v,(zp7 (s.Validators.Tokens.get v) f).1,t,s,z,W)) ?_ ?_ 0 (zabx hg)
    ·intro W t hW _
     simp only[zhq];rw[Tr.rf (by simp),Tr.rl]
    ·intro i W t hi hW hgi hI
     have h60:=hg.2.1.2.2
     obtain ⟨k1,k2,k3⟩:=zagy hg (v:=v) (h:=h) hf' hi hI
     refine ⟨?_,k1⟩
     have ht:=hI.1
     simp only[zhq]
     rw[yy4,hgi]
     obtain ⟨w,hw⟩:∃ w,w=s.Waits.getD i default:=⟨_,rfl⟩
     rw[← hw] at k2 k3 hgi ⊢
     rw[Tr.rt (by simpa using hi),Tr.rg ⟨by omega,by rw[z5];omega⟩]
     unfold slN at k3
     unfold slN slW
     by_cases hh:hitW v h w=true
     ·obtain ⟨c1,c2,c3⟩:=zo1 k2 hf'
      unfold inA at k2
      rw[if_pos hh] at k3
      rw[Tr.rt (b:=w.V==v&&decide (w.Height≥h)) hh,Tr.rb zaro,Tr.rl,if_pos hh,if_pos hh,zl (by omega),zf (x:=t+_) (by omega) (by omega),zf (x:=w.Amount - _) (by omega) (by omega)]
     ·rw[Tr.rf (by unfold hitW at hh;simpa using hh),Tr.rl,if_neg hh,if_neg hh,zl (by omega),← hgi,z1o (by omega),Int.add_zero]
   have hsum:=zak7 hg (v:=v) (h:=h) hf'
   have htok:=z06 hg hv
   have o1:okN s.Bank.Waiting:=hg.1.2.2.2.2.2.1
   have o2:okN s.Bank.Bonded:=hg.1.2.2.2.2.1
   have o3:okN s.Bank.Burnt:=hg.1.2.2.2.2.2.2.1
   unfold okN at o1 o2 o3
   have hb:=(zam2 hg.1 b2 (Int.le_trans b3 htok.1) hsum.1 hsum.2).1
   rw[Tr.rb (key _),Tr.rb za30]
   unfold inA at hL hT
   unfold zgs
   simp only[]
   rw[Tr.rf (by rw[hb];rfl),Tr.rl]
   obtain ⟨x,hx⟩:∃ x,x=(zp7 (s.Validators.Tokens.get v) f).1:=⟨_,rfl⟩
   obtain ⟨y,hy⟩:∃ y,y=sumN v h f s.Waits:=⟨_,rfl⟩
   rw[← hx] at b2 b3 ⊢
   rw[← hy] at hsum ⊢
   rw[zf (x:=s.Validators.Tokens.get v - x) (by omega) (by omega),zf (x:=s.Validators.Lost.get v+x) (by omega) (by omega),zf (x:=s.Validators.Lost.get v+x+y) (by omega) (by omega),zf (x:=x+y) (by omega) (by omega),Int.add_assoc]
 ·rw[if_pos h0,Tr.rt (by simpa using h0),Tr.rl]
theorem z4e {s:Stake} {v h f:Int}:zpv s v h f=some (zjr s v h f):=by
 rw[zpv,z3y,Tr.rb (zagw _ _ _)]
 unfold zjr
 by_cases h0:ze2 s 0 v=0
 ·obtain ⟨hg,hd,hv⟩:=zi2 h0
  obtain ⟨⟨hT,hS,hL,h4,h5⟩,_,_⟩:=hg.at hv
  rw[if_neg (by simpa using h0),Tr.rf (by simpa using h0),Tr.rg hv,Tr.rb zaej]
  by_cases hf:f < 0∨1000 < f
  ·have e:zp7 (s.Validators.Tokens.get v) f=(0,2):=by unfold zp7;rw[if_pos (by omega)]
   rw[if_pos hf,e,Tr.rt (by rfl),Tr.rl]
  ·have hf':0≤f∧f≤1000:=by omega
   obtain ⟨b1,b2,b3⟩:=zo1 hT hf'
   rw[if_neg hf,Tr.rf (by simpa using b1),Tr.rb (zww hg.fit)]
   have key:∀ z:Stake,zte v h f (zp7 (s.Validators.Tokens.get v) f).1 0 s.Waits s.Waits.length 0 s z s=some (v,(zp7 (s.Validators.Tokens.get v) f).1,sumN v h f s.Waits,s,z,{ s with Waits:=s.Waits.map (slW v h f) }):=by
    intro z
    rw[zte]
    refine z1p (F:=fun s:Int×Int×Int×Int×Int×(List Wait)×Int×Int×Stake×Stake×Stake=>(zk6 s.1 s.2.1 s.2.2.1 s.2.2.2.1 s.2.2.2.2.1 s.2.2.2.2.2.1 s.2.2.2.2.2.2.1 s.2.2.2.2.2.2.2.1 s.2.2.2.2.2.2.2.2.1 s.2.2.2.2.2.2.2.2.2.1 s.2.2.2.2.2.2.2.2.2.2).run) s.Waits default
     (fun i W t=>(v,h,f,(zp7 (s.Validators.Tokens.get v) f).1,t,s.Waits,(s.Waits.length:Int),(i:Int),s,z,{ s with Waits:=W })) (SlI s) (slW v h f) (fun t w=>t+slN v h f w) (fun W t=>(v,(zp7 (s.Validators.Tokens.get v) f).1,t,s,z,{ s with Waits:=W })) ?_ ?_ 0 (zabx hg)
    ·intro W t hW _
     simp only[zk6];rw[Tr.rf (by simp),Tr.rl]
    ·intro i W t hi hW hgi hI
     have h60:=hg.2.1.2.2
     obtain ⟨k1,k2,k3⟩:=zagy hg (v:=v) (h:=h) hf' hi hI
     refine ⟨?_,k1⟩
     have ht:=hI.1
     simp only[zk6]
     rw[yy4]
     rw[hgi]
     obtain ⟨w,hw⟩:∃ w,w=s.Waits.getD i default:=⟨_,rfl⟩
     rw[← hw] at k2 k3 hgi ⊢
     rw[Tr.rt (by simpa using hi),Tr.rg ⟨by omega,by rw[z5];omega⟩]
     unfold slN at k3
     unfold slN slW
     by_cases hh:hitW v h w=true
     ·obtain ⟨c1,c2,c3⟩:=zo1 k2 hf'
      unfold inA at k2
      rw[if_pos hh] at k3
      rw[Tr.rf (by unfold hitW at hh;simpa using hh),Tr.rb zaej,Tr.rg ⟨by omega,by rw[z5];omega⟩,Tr.rl,if_pos hh,if_pos hh,zl (by omega),zf (x:=t+_) (by omega) (by omega),zf (x:=w.Amount - _) (by omega) (by omega)]
     ·rw[Tr.rt (by
       unfold hitW at hh
       simp only[Bool.or_eq_true,bne_iff_ne,decide_eq_true_eq]
       simp only[yy7,beq_iff_eq,decide_eq_true_eq] at hh
       omega),Tr.rl,if_neg hh,if_neg hh,zl (by omega),← hgi,z1o (by omega),Int.add_zero]
   have hsum:=zak7 hg (v:=v) (h:=h) hf'
   have htok:=z06 hg hv
   have o1:okN s.Bank.Waiting:=hg.1.2.2.2.2.2.1
   have o2:okN s.Bank.Bonded:=hg.1.2.2.2.2.1
   have o3:okN s.Bank.Burnt:=hg.1.2.2.2.2.2.2.1
   unfold okN at o1 o2 o3
   rw[Tr.rb (key _),Tr.rb zaom]
   unfold inA at hL hT
   unfold zgs
   simp only[]
   iterate 4 rw[Tr.rg hv]
   rw[Tr.rl]
   obtain ⟨x,hx⟩:∃ x,x=(zp7 (s.Validators.Tokens.get v) f).1:=⟨_,rfl⟩
   obtain ⟨y,hy⟩:∃ y,y=sumN v h f s.Waits:=⟨_,rfl⟩
   rw[← hx] at b2 b3 ⊢
   rw[← hy] at hsum ⊢
   rw[zf (x:=s.Validators.Tokens.get v - x) (by omega) (by omega),zf (x:=x+y) (by omega) (by omega),zf (x:=s.Validators.Lost.get v+(x+y)) (by omega) (by omega)]
 ·rw[if_pos h0,Tr.rt (by simpa using h0),Tr.rl]
def ltL (a b:Power):Bool:=decide (b.N < a.N)||(a.N==b.N&&decide (a.V < b.V))
theorem zak8 {a b:Power}:ltL a b=true↔b.N < a.N∨(a.N=b.N∧a.V < b.V):=by unfold ltL;simp
theorem zag0 {a b:Power}:ltL a b=false↔¬ (b.N < a.N∨(a.N=b.N∧a.V < b.V)):=by rw[← zak8];simp
theorem swo_ltL:Sort.SWO ltL:=⟨fun x=>by rw[zag0];omega,fun x y z=>by simp only[zak8];omega,fun x y z=>by simp only[zag0];omega⟩
theorem zai3 {lt:Power→Power→Bool} (a:Nat):∀ (j:Nat) (d:Array Power),j < d.size →
  (Sort.insInner lt a j d).size=d.size∧(∀ k,j < k→(Sort.insInner lt a j d)[k]! = d[k]!)∧∀ k,k≤j→∃ q,q≤j∧(Sort.insInner lt a j d)[k]! = d[q]!
 | 0,d,hj=>by
  unfold Sort.insInner
  exact ⟨rfl,fun _ _=>rfl,fun k hk=>⟨k,hk,rfl⟩⟩
 | j+1,d,hj=>by
  unfold Sort.insInner
  split
  ·obtain ⟨h1,h2,h3⟩:=zai3 (lt:=lt) a j (Sort.swp d (j+1) j) (by rw[Sort.swp_size];omega)
   have g:=Sort.swp_get d hj (show j < d.size by omega)
   refine ⟨by rw[h1,Sort.swp_size],fun k hk=>?_,fun k hk=>?_⟩
   ·rw[h2 k (by omega),g,if_neg (by omega),if_neg (by omega)]
   ·by_cases he:k=j+1
    ·exact ⟨j,by omega,by rw[h2 k (by omega),g,if_neg (by omega),if_pos he]⟩
    ·obtain ⟨q,q1,q2⟩:=h3 k (by omega)
     by_cases hq:q=j
     ·exact ⟨j+1,by omega,by rw[q2,g,if_pos hq]⟩
     ·exact ⟨q,by omega,by rw[q2,g,if_neg hq,if_neg (by omega)]⟩
  ·exact ⟨rfl,fun _ _=>rfl,fun k hk=>⟨k,hk,rfl⟩⟩
theorem zam3 (a:Nat):∀ (j:Nat) (d:Array Power),j < d.size→(∀ k,k < j→d[k]!.V < d[j]!.V)→Sort.insInner ltN a j d=Sort.insInner ltL a j d
 | 0,d,_,_=>by unfold Sort.insInner;rfl
 | j+1,d,hj,h=>by
  have e:ltN d[j+1]! d[j]! = ltL d[j+1]! d[j]! := by
   have:=h j (by omega)
   unfold ltN ltL
   rw[Bool.eq_iff_iff];simp;omega
  unfold Sort.insInner
  rw[e]
  split
  ·have g:=Sort.swp_get d hj (show j < d.size by omega)
   refine zam3 a j _ (by rw[Sort.swp_size];omega) (fun k hk=>?_)
   rw[g,g,if_neg (by omega),if_neg (by omega),if_pos rfl]
   exact h k (by omega)
  ·rfl
theorem zai4 (a b:Nat):∀ (n i:Nat) (d:Array Power),b - i=n→b≤d.size→(∀ k m,k < m→i≤m→m < b→d[k]!.V < d[m]!.V)→Sort.insOuter ltN a b i d=Sort.insOuter ltL a b i d
 | 0,i,d,hn,_,_=>by
  rw[Sort.insOuter,if_neg (by omega),Sort.insOuter,if_neg (by omega)]
 | n+1,i,d,hn,hb,h=>by
  rw[Sort.insOuter,if_pos (by omega)]
  conv=>rhs;rw[Sort.insOuter,if_pos (show i < b by omega)]
  rw[zam3 a i d (by omega) (fun k hk=>h k i hk (Nat.le_refl _) (by omega))]
  obtain ⟨h1,h2,h3⟩:=zai3 (lt:=ltL) a i d (by omega)
  refine zai4 a b n (i+1) _ (by omega) (by rw[h1];exact hb) (fun k m hk hm hmb=>?_)
  rw[h2 m (by omega)]
  by_cases hki:k≤i
  ·obtain ⟨q,q1,q2⟩:=h3 k hki
   rw[q2]
   exact h q m (by omega) (by omega) hmb
  ·rw[h2 k (by omega)]
   exact h k m hk (by omega) hmb
theorem zar1 {lt:Power→Power→Bool} (hs:Sort.SWO lt) (l:List Power):((Sort.insertionSort lt l.toArray 0 l.length).toList).Perm l∧((Sort.insertionSort lt l.toArray 0 l.length).toList).Pairwise (fun a b=>lt b a=false):=by
 obtain ⟨⟨h1,h2,h3⟩,h4⟩:=Sort.insertionSort_holds hs l.toArray 0 l.length (by omega) (by simp)
 obtain ⟨r,hr⟩:∃ r,r=Sort.insertionSort lt l.toArray 0 l.length:=⟨_,rfl⟩
 rw[← hr] at h1 h2 h3 h4 ⊢
 have hsz:r.size=l.length:=by rw[h1];simp
 refine ⟨?_,?_⟩
 ·have e1:(r.extract 0 l.length).toList=r.toList:=by rw[← hsz];simp
  have e2:(l.toArray.extract 0 l.length).toList=l:=by simp
  rwa [e1,e2] at h3
 ·rw[List.pairwise_iff_getElem]
  intro i j hi hj hij
  have:=h4 i j (by omega) hij (by simpa[hsz] using hj)
  rw[Array.length_toList] at hi hj
  rwa [getElem!_pos r j hj,getElem!_pos r i hi] at this
theorem zaeo:∀ {l m:List Power},l.Pairwise (fun a b=>a.V < b.V)→m.Pairwise (fun a b=>a.V < b.V)→(∀ p,p∈l↔p∈m)→l=m
 | [],[],_,_,_=>rfl
 | [],b::m,_,_,h=>by have:=(h b).2 (List.mem_cons_self ..);cases this
 | a::l,[],_,_,h=>by have:=(h a).1 (List.mem_cons_self ..);cases this
 | a::l,b::m,hl,hm,h=>by
  rw[List.pairwise_cons] at hl hm
  have hab:a=b:=by
   rcases List.mem_cons.1 ((h a).1 (List.mem_cons_self ..)) with h1 | h1
   ·exact h1
   ·rcases List.mem_cons.1 ((h b).2 (List.mem_cons_self ..)) with h2 | h2
    ·exact h2.symm
    ·have k1:=hm.1 a h1
     have k2:=hl.1 b h2
     omega
  subst hab
  congr 1
  refine zaeo hl.2 hm.2 fun p=>⟨fun hp=>?_,fun hp=>?_⟩
  ·rcases List.mem_cons.1 ((h p).1 (List.mem_cons_of_mem _ hp)) with h1 | h1
   ·have:=hl.1 p hp;rw[h1] at this;omega
   ·exact h1
  ·rcases List.mem_cons.1 ((h p).2 (List.mem_cons_of_mem _ hp)) with h1 | h1
   ·have:=hm.1 p hp;rw[h1] at this;omega
   ·exact h1
theorem zam4 {R:Power→Power→Bool} (hi:∀ a,R a a=false) (ha:∀ a b,R a b=true→R b a=false):∀ {l:List Power} {k:Nat} {p:Power},l.Pairwise (fun a b=>R a b=true)→(p∈l.take k↔p∈l∧l.countP (fun q=>R q p) < k)
 | [],k,p,_=>by simp
 | a::l,0,p,_=>by simp
 | a::l,k+1,p,h=>by
  rw[List.pairwise_cons] at h
  rw[List.take_succ_cons,List.mem_cons,List.mem_cons,zam4 hi ha h.2,List.countP_cons]
  by_cases hpa:p=a
  ·subst hpa
   have h0:l.countP (fun q=>R q p)=0:=by
    rw[List.countP_eq_zero]
    intro q hq
    rw[ha _ _ (h.1 q hq)];simp
   rw[h0,hi];simp
  ·simp only[hpa,false_or]
   constructor
   ·rintro ⟨h1,h2⟩
    rw[h.1 p h1]
    exact ⟨h1,by simp;omega⟩
   ·rintro ⟨h1,h2⟩
    rw[h.1 p h1] at h2
    simp at h2
    exact ⟨h1,by omega⟩
def z6a (f:Nat→Int) (v u:Nat):Bool:=decide (f u > f v)||(f u==f v&&decide ((u:Int) < v))
def z6b (f:Nat→Int) (v:Nat):Nat:=(List.range 6).countP (z6a f v)
def topF (f:Nat→Int) (v:Nat):Int:=if z6b f v < 4 then f v else 0
theorem z7r (f:Nat→Int):znr f=(List.range 6).flatMap (fun (v:Nat)=>z0y (v:Int) (f v)):=by
 unfold znr
 rw[List.foldl_append_eq_append,List.nil_append,List.flatMap_def]
theorem mem_oneP {v n:Int} {p:Power}:p∈z0y v n↔0 < n∧p=⟨v,n⟩:=by
 unfold z0y
 by_cases h:0 < n
 ·rw[if_pos h];simp[h]
 ·rw[if_neg h];simp[h]
theorem mem_setOf {f:Nat→Int} {p:Power}:p∈znr f↔∃ v:Nat,v < 6∧0 < f v∧p=⟨v,f v⟩:=by
 rw[z7r,List.mem_flatMap]
 constructor
 ·rintro ⟨v,h1,h2⟩;exact ⟨v,List.mem_range.1 h1,mem_oneP.1 h2⟩
 ·rintro ⟨v,h1,h2⟩;exact ⟨v,List.mem_range.2 h1,mem_oneP.2 h2⟩
theorem z07 (f:Nat→Int):(znr f).Pairwise (fun a b=>a.V < b.V):=by
 rw[z7r,List.pairwise_flatMap]
 refine ⟨fun v _=>?_,?_⟩
 ·unfold z0y;split<;>simp
 ·refine List.Pairwise.imp ?_ (List.pairwise_lt_range (n:=6))
  intro u v huv x hx y hy
  rw[(mem_oneP.1 hx).2,(mem_oneP.1 hy).2]
  show (u:Int) < v
  omega
theorem zaep {p:Power→Bool} {q:Nat→Bool} {g:Nat→List Power}:∀ {l:List Nat},(∀ u,u∈l→(g u).countP p=if q u=true then 1 else 0)→(l.flatMap g).countP p=l.countP q
 | [],_=>rfl
 | u::l,h=>by
  rw[List.flatMap_cons,List.countP_append,h u (List.mem_cons_self ..),zaep fun x hx=>h x (List.mem_cons_of_mem _ hx),List.countP_cons,Nat.add_comm]
theorem zaby {f:Nat→Int} {v:Nat} (hv:0 < f v):(znr f).countP (fun q=>ltL q ⟨v,f v⟩)=z6b f v:=by
 rw[z7r]
 refine zaep fun u _=>?_
 unfold z0y
 by_cases hu:0 < f u
 ·rw[if_pos hu,List.countP_singleton]
  have e:ltL ⟨u,f u⟩ ⟨v,f v⟩=z6a f v u:=rfl
  rw[e]
 ·rw[if_neg hu,List.countP_nil]
  have e:z6a f v u=false:=by
   unfold z6a
   simp only[Bool.or_eq_false_iff,Bool.and_eq_false_iff,yy8,beq_eq_false_iff_ne]
   omega
  rw[e];simp
theorem zaxi {f:Nat→Int} (hf:∀ v,0≤f v):∃ l1,z99 ltN (znr f)=some l1∧l1.length≤6∧z99 ltV (l1.take 4)=some (znr (topF f)):=by
 have h6:=z00 f
 have hs:=z07 f
 have e1:Sort.insertionSort ltN (znr f).toArray 0 (znr f).length=Sort.insertionSort ltL (znr f).toArray 0 (znr f).length:=by
  unfold Sort.insertionSort
  refine zai4 0 _ _ 1 _ rfl (by simp) (fun k m hkm h1 hm=>?_)
  rw[List.pairwise_iff_getElem] at hs
  have:=hs k m (by omega) hm hkm
  rwa [getElem!_pos _ m (by simpa using hm),getElem!_pos _ k (by simp;omega)]
 obtain ⟨p1,p2⟩:=zar1 swo_ltL (znr f)
 obtain ⟨l1,hl1⟩:∃ l1,l1=(Sort.insertionSort ltL (znr f).toArray 0 (znr f).length).toList:=⟨_,rfl⟩
 rw[← hl1] at p1 p2
 have hlen:l1.length≤6:=by rw[p1.length_eq];exact h6
 have hnd:(znr f).Pairwise (fun a b=>a.V≠b.V):=hs.imp fun h=>by omega
 have hnd1:l1.Pairwise (fun a b=>a.V≠b.V):=(p1.pairwise_iff (fun h=>Ne.symm h)).2 hnd
 have hL:l1.Pairwise (fun a b=>ltL a b=true):=by
  refine List.Pairwise.imp₂ (R:=fun a b=>a.V≠b.V) (S:=fun a b=>ltL b a=false) ?_ hnd1 p2
  intro a b h1 h2
  rw[zag0] at h2
  rw[zak8];omega
 refine ⟨l1,?_,hlen,?_⟩
 ·unfold z99
  rw[if_pos (by omega),e1,hl1]
 ·obtain ⟨q1,q2⟩:=zar1 zaqn (l1.take 4)
  have h4:(l1.take 4).length≤12:=by rw[List.length_take];omega
  unfold z99
  rw[if_pos h4]
  congr 1
  obtain ⟨l2,hl2⟩:∃ l2,l2=(Sort.insertionSort ltV (l1.take 4).toArray 0 (l1.take 4).length).toList:=⟨_,rfl⟩
  rw[← hl2] at q1 q2 ⊢
  have hnd2:l2.Pairwise (fun a b=>a.V≠b.V):=(q1.pairwise_iff (fun h=>Ne.symm h)).2 (hnd1.sublist (List.take_sublist _ _))
  refine zaeo ?_ (z07 _) ?_
  ·refine List.Pairwise.imp₂ (R:=fun a b=>a.V≠b.V) (S:=fun a b=>ltV b a=false) ?_ hnd2 q2
   intro a b h1 h2
   unfold ltV at h2
   rw[yy8] at h2
   omega
  ·intro p
   rw[q1.mem_iff,zam4 swo_ltL.irrefl (fun a b h=>swo_ltL.asymmA h) hL,p1.mem_iff,p1.countP_eq,mem_setOf,mem_setOf]
   constructor
   ·rintro ⟨⟨v,hv,hp,rfl⟩,hc⟩
    rw[zaby hp] at hc
    have e:topF f v=f v:=by unfold topF;rw[if_pos hc]
    exact ⟨v,hv,by rw[e];exact hp,by rw[e]⟩
   ·rintro ⟨v,hv,hp,rfl⟩
    have hc:z6b f v < 4:=by
     unfold topF at hp
     by_cases h:z6b f v < 4
     ·exact h
     ·rw[if_neg h] at hp;omega
    have e:topF f v=f v:=by unfold topF;rw[if_pos hc]
    rw[e] at hp ⊢
    exact ⟨⟨v,hv,hp,rfl⟩,by rw[zaby hp];exact hc⟩
def nvF (s:Stake) (v:Nat):Int:=if s.Validators.Jailed.get v=true then 0 else s.Validators.Tokens.get v / 100
def setS (s:Stake):List Power:=znr (topF (nvF s))
theorem zbcx {s:Stake} (hg:GoodS s) {v:Nat} (hv:v < 6):0≤nvF s v∧nvF s v≤1125899906842624:=by
 have h:=(hg.at (v:=v) (by omega)).1.1
 unfold inA at h
 unfold nvF
 split<;>omega
def cutF (f:Nat→Int) (v:Nat):Int:=if v < 6 then f v else 0
theorem zar2 (f:Nat→Int):znr (cutF f)=znr f:=zabn fun v hv=>by unfold cutF;rw[if_pos hv]
theorem zaxj (f:Nat→Int) {v:Nat} (hv:v < 6):topF (cutF f) v=topF f v:=by
 have e:∀ u,u < 6→cutF f u=f u:=fun u hu=>by unfold cutF;rw[if_pos hu]
 have e2:z6b (cutF f) v=z6b f v:=by
  unfold z6b
  refine List.countP_congr fun u hu=>?_
  unfold z6a
  rw[e u (List.mem_range.1 hu),e v hv]
 unfold topF
 rw[e2,e v hv]
theorem zar3 {x:Int} (h:inA x):IntKind.i64.wrap (Int.tdiv x 100)=x / 100:=by
 unfold inA at h
 rw[Int.tdiv_eq_ediv_of_nonneg h.1,zf (by omega) (by omega)]
theorem zbcy {s:Stake} (hg:GoodS s):z0g s=some (setS s):=by
 have key:zst (vsA s) 0 []=some (znr (nvF s)):=by
  rw[zst]
  refine zb1 (F:=fun s:(A6 zi)×Int×(List Power)=>(zk2 s.1 s.2.1 s.2.2).run) (List.range 6) 0
   (fun i t=>(vsA s,(i:Int),t)) (fun i t=>t.length≤i) (fun t (v:Nat)=>t++z0y v (nvF s v)) (fun t=>t) ?_ ?_ [] (by simp)
  ·intro t _
   simp only[zk2,List.length_range];rw[Tr.rf (by rfl),Tr.rl]
  ·intro i t hi ht
   rw[List.length_range] at hi
   rw[zmf hi]
   have h1:=z52 i (nvF s i)
   have h2:=(hg.at (v:=i) (by omega)).1.1
   refine ⟨?_,by rw[yy6];omega⟩
   simp only[zk2]
   rw[zaop,zaoo,zar3 h2,Tr.rt (by simp;omega),Tr.rg (by omega),Tr.rg (by omega)]
   unfold z0y
   by_cases hj:s.Validators.Jailed.get i=true
   ·have e:nvF s i=0:=by unfold nvF;rw[if_pos hj]
    rw[Tr.rf (by rw[hj];rfl),Tr.rl,e,if_neg (by omega),List.append_nil,zl (by omega)]
   ·have e:nvF s i=s.Validators.Tokens.get i / 100:=by unfold nvF;rw[if_neg hj]
    rw[e]
    by_cases hp:0 < s.Validators.Tokens.get i / 100
    ·rw[if_pos hp,Tr.rt (by simp only[yy7,Bool.not_eq_true',decide_eq_true_eq];exact ⟨by simpa using hj,hp⟩),Tr.rg (by simp only[zp,yy5];omega),Tr.rl,zl (by omega)]
    ·rw[if_neg hp,Tr.rf (by simp only[Bool.and_eq_false_iff,yy8];exact .inr hp),Tr.rl,zl (by omega),List.append_nil]
 have hc:∀ v,0≤cutF (nvF s) v:=by
  intro v
  unfold cutF
  split
  ·rename_i h;exact (zbcx hg h).1
  ·omega
 obtain ⟨l1,h1,h2,h3⟩:=zaxi hc
 rw[zar2] at h1
 rw[zabn (fun v hv=>zaxj (nvF s) hv)] at h3
 rw[z0g,z3v]
 refine (Tr.rb key).trans ?_
 rw[Tr.rb (show zsb (znr (nvF s))=some l1 from h1),Tr.rg (by rw[zp];split<;>omega)]
 have e:(l1.drop 0).take ((if 4 < ((l1.length:Nat):Int) then 4 else ((l1.length:Nat):Int)).toNat - 0)=l1.take 4:=by
  rw[List.drop_zero]
  by_cases h:4 < ((l1.length:Nat):Int)
  ·rw[if_pos h];rfl
  ·rw[if_neg h,List.take_of_length_le (by omega),List.take_of_length_le (by omega)]
 rw[e,Tr.rb (show z4u (l1.take 4)=some (znr (topF (nvF s))) from h3),Tr.rl]
 rfl
def zaor (f:Nat→Int) (i:Nat):A6 Int:=⟨if 0 < i then f 0 else 0,if 1 < i then f 1 else 0,if 2 < i then f 2 else 0,if 3 < i then f 3 else 0,if 4 < i then f 4 else 0,if 5 < i then f 5 else 0⟩
theorem zar4 (f:Nat→Int) {i:Nat} (hi:i < 6):(zaor f i).set (i:Int) (f i)=zaor f (i+1):=by
 obtain rfl | rfl | rfl | rfl | rfl | rfl:i=0∨i=1∨i=2∨i=3∨i=4∨i=5:=by omega
 all_goals rfl
theorem zaos (f:Nat→Int) {i:Nat} (hi:i < 6) (h:f i=0):zaor f i=zaor f (i+1):=by
 obtain rfl | rfl | rfl | rfl | rfl | rfl:i=0∨i=1∨i=2∨i=3∨i=4∨i=5:=by omega
 all_goals simp[zaor,h]
theorem zaeq (p:Nat→Bool):∀ (l:List Nat) (t:Int),l.foldl (fun t u=>if p u=true then t+1 else t) t=t+(l.countP p:Int)
 | [],t=>by simp
 | u::l,t=>by
  rw[List.foldl_cons,zaeq p l,List.countP_cons]
  split<;>(simp only[Nat.add_zero,Int.natCast_add,Int.natCast_one];try omega)
theorem zar5 {s:Stake} (hg:GoodS s):z7g s=some (setS s):=by
 have k1:zx5 (vsA s) 0 (⟨0,0,0,0,0,0⟩:A6 Int)=some ⟨nvF s 0,nvF s 1,nvF s 2,nvF s 3,nvF s 4,nvF s 5⟩:=by
  rw[zx5]
  exact zbx (F:=fun s:(A6 zi)×Int×(A6 Int)=>(zpw s.1 s.2.1 s.2.2).run) 6 (fun i t=>(vsA s,(i:Int),t)) (fun i t=>t=zaor (nvF s) i) (fun _ _=>(⟨nvF s 0,nvF s 1,nvF s 2,nvF s 3,nvF s 4,nvF s 5⟩:A6 Int)) (by
    intro t ht
    simp only[zpw];rw[Tr.rf (by rfl),Tr.rl,ht];rfl) (by
    intro i t hi ht
    have h2:=(hg.at (v:=i) (by omega)).1.1
    simp only[zpw]
    rw[zaop,zaoo,zar3 h2,Tr.rt (by simp;omega),Tr.rg (by omega)]
    by_cases hj:s.Validators.Jailed.get i=true
    ·have e:nvF s i=0:=by unfold nvF;rw[if_pos hj]
     exact .inl ⟨t,by rw[Tr.rf (by rw[hj];rfl),Tr.rl,zl (by omega)],by rw[ht,zaos _ hi e],trivial⟩
    ·have e:nvF s i=s.Validators.Tokens.get i / 100:=by unfold nvF;rw[if_neg hj]
     refine .inl ⟨t.set i (nvF s i),by rw[Tr.rt (by simpa using hj),Tr.rg (by omega),Tr.rg (by omega),Tr.rl,zl (by omega),e],by rw[ht,zar4 _ hi],trivial⟩) 0 _ (by omega) rfl
 have k2:∀ (v:Nat) (l:List Power),v < 6→zx6 v 0 v 0 (⟨nvF s 0,nvF s 1,nvF s 2,nvF s 3,nvF s 4,nvF s 5⟩:A6 Int) l=some ((v:Int),(z6b (nvF s) v:Int),(v:Int),(⟨nvF s 0,nvF s 1,nvF s 2,nvF s 3,nvF s 4,nvF s 5⟩:A6 Int),l):=by
  intro v l hv
  have:=zb1 (F:=fun s:Int×Int×Int×Int×(A6 Int)×(List Power)=>(zpx s.1 s.2.1 s.2.2.1 s.2.2.2.1 s.2.2.2.2.1 s.2.2.2.2.2).run) (List.range 6) 0
   (fun i t=>((v:Int),t,(v:Int),(i:Int),(⟨nvF s 0,nvF s 1,nvF s 2,nvF s 3,nvF s 4,nvF s 5⟩:A6 Int),l)) (fun i t=>0≤t∧t≤i) (fun t u=>if z6a (nvF s) v u=true then t+1 else t) (fun t=>((v:Int),t,(v:Int),(⟨nvF s 0,nvF s 1,nvF s 2,nvF s 3,nvF s 4,nvF s 5⟩:A6 Int),l)) (by
    intro t _
    simp only[zpx,List.length_range];rw[Tr.rf (by rfl),Tr.rl]) (by
    intro i t hi ht
    rw[List.length_range] at hi
    rw[zmf hi]
    refine ⟨?_,by split<;>omega⟩
    simp only[zpx]
    rw[zaef (nvF s) hi,zaef (nvF s) hv,Tr.rt (by simp;omega),Tr.rg (by omega),Tr.rg (by omega),Tr.rg (fun _=>⟨by omega,trivial⟩),Tr.rg (fun _=>⟨by omega,trivial⟩)]
    by_cases ha:z6a (nvF s) v i=true
    ·rw[if_pos ha,Tr.rt (by unfold z6a at ha;exact ha),Tr.rl,zl (by omega),zf (by omega) (by omega)]
    ·rw[if_neg ha,Tr.rf (by unfold z6a at ha;simpa using ha),Tr.rl,zl (by omega)]) 0 ⟨by omega,by omega⟩
  rw[zaeq,Int.zero_add] at this
  rw[zx6]
  exact this
 have k3:zx7 0 (⟨nvF s 0,nvF s 1,nvF s 2,nvF s 3,nvF s 4,nvF s 5⟩:A6 Int) []=some (setS s):=by
  rw[zx7]
  refine zb1 (F:=fun s:Int×(A6 Int)×(List Power)=>(zpy s.1 s.2.1 s.2.2).run) (List.range 6) 0
   (fun i t=>((i:Int),(⟨nvF s 0,nvF s 1,nvF s 2,nvF s 3,nvF s 4,nvF s 5⟩:A6 Int),t)) (fun i t=>t.length≤i) (fun t (v:Nat)=>t++z0y v (topF (nvF s) v)) (fun t=>t) ?_ ?_ [] (by simp)
  ·intro t _
   simp only[zpy,List.length_range];rw[Tr.rf (by rfl),Tr.rl]
  ·intro i t hi ht
   rw[List.length_range] at hi
   rw[zmf hi]
   have h1:=z52 i (topF (nvF s) i)
   refine ⟨?_,by rw[yy6];omega⟩
   simp only[zpy]
   rw[Tr.rt (by simp;omega),Tr.rb (k2 i t hi)]
   simp only[]
   rw[zaef (nvF s) hi,Tr.rg (by omega)]
   unfold topF
   by_cases ha:z6b (nvF s) i < 4
   ·rw[if_pos ha]
    unfold z0y
    by_cases hp:0 < nvF s i
    ·rw[if_pos hp,Tr.rt (by simp only[yy7,decide_eq_true_eq];omega),Tr.rg (by omega),Tr.rg (by simp only[zp,yy5];omega),Tr.rl,zl (by omega)]
    ·rw[if_neg hp,Tr.rf (by simp only[Bool.and_eq_false_iff,yy8];omega),Tr.rl,zl (by omega),List.append_nil]
   ·rw[if_neg ha,Tr.rf (by simp only[Bool.and_eq_false_iff,yy8];omega),Tr.rl,zl (by omega)]
    show _=some (Sum.inl (_,_,t++z0y (i:Int) 0))
    rw[show z0y (i:Int) 0=[] from rfl,List.append_nil]
 rw[z7g,zabc]
 exact (Tr.rb k1).trans ((Tr.rb k3).trans (Tr.rl _))
def zbcz:Validators:=⟨⟨0,0,0,0,0,0⟩,⟨0,0,0,0,0,0⟩,⟨0,0,0,0,0,0⟩,⟨false,false,false,false,false,false⟩,⟨false,false,false,false,false,false⟩⟩
def newS:Stake:=⟨newB,zbcz,⟨⟨0,0,0,0,0,0⟩,⟨0,0,0,0,0,0⟩,⟨0,0,0,0,0,0⟩,⟨0,0,0,0,0,0⟩⟩,[],1⟩
theorem zak9:zz8=some newS:=by
 rw[zz8,z3r,Tr.rb zaon,Tr.rl];rfl
theorem zadh:zs9=some newS:=by
 rw[zs9,zvn,Tr.rb zarr,Tr.rl];rfl
theorem zai5 (s:Stake) (v k:Int):(zcx s v k).1.Waits=s.Waits:=by
 unfold zcx
 repeat' split
 all_goals rfl
def fP (a:List Power) (v:Nat):Int:=zcv a v
theorem zaxk {a b:List Power} (ha:a.length≤9223372036854775807) (hb:b.length≤9223372036854775807):zfd a b=some (zyy (fP a) (fP b)):=by
 have key:zqn a b 0 []=some (zyy (fP a) (fP b)):=by
  rw[zqn]
  refine zb1 (F:=fun s:(List Power)×(List Power)×Int×(List Power)=>(zjb s.1 s.2.1 s.2.2.1 s.2.2.2).run) (List.range 6) 0
   (fun i t=>(a,b,(i:Int),t)) (fun i t=>t.length≤i) (fun t (v:Nat)=>t++z82 v (fP b v) (fP a v)) (fun t=>t) ?_ ?_ [] (by simp)
  ·intro t _
   simp only[zjb,List.length_range];rw[Tr.rf (by rfl),Tr.rl]
  ·intro i t hi ht
   rw[List.length_range] at hi
   rw[zmf hi]
   have h1:=zup i (fP b i) (fP a i)
   refine ⟨?_,by rw[yy6];omega⟩
   simp only[zjb]
   rw[Tr.rt (by simp;omega),Tr.rb (zakz hb),Tr.rb (zakz ha)]
   unfold fP z82
   by_cases hp:zcv b i≠zcv a i
   ·rw[if_pos hp,Tr.rt (by simpa using hp),Tr.rg (by simp only[zp,yy5];omega),Tr.rl,zl (by omega)]
   ·rw[if_neg hp,Tr.rf (by simpa using hp),Tr.rl,zl (by omega),List.append_nil]
 rw[zfd,z0f,Tr.rb key,Tr.rl]
theorem zaot {a b:List Power} (ha:a.length≤9223372036854775807) (hb:b.length≤9223372036854775807):zje a b=some (zyy (fP a) (fP b)):=by
 have key:zvp 0 (rowA a) (rowA b) []=some (zyy (fP a) (fP b)):=by
  rw[zvp]
  refine zb1 (F:=fun s:Int×(A6 Int)×(A6 Int)×(List Power)=>(zng s.1 s.2.1 s.2.2.1 s.2.2.2).run) (List.range 6) 0
   (fun i t=>((i:Int),rowA a,rowA b,t)) (fun i t=>t.length≤i) (fun t (v:Nat)=>t++z82 v (fP b v) (fP a v)) (fun t=>t) ?_ ?_ [] (by simp)
  ·intro t _
   simp only[zng,List.length_range];rw[Tr.rf (by rfl),Tr.rl]
  ·intro i t hi ht
   rw[List.length_range] at hi
   rw[zmf hi]
   have h1:=zup i (fP b i) (fP a i)
   refine ⟨?_,by rw[yy6];omega⟩
   have ea:(rowA a).get (i:Int)=fP a i:=zaef (fP a) hi
   have eb:(rowA b).get (i:Int)=fP b i:=zaef (fP b) hi
   simp only[zng]
   rw[ea,eb,Tr.rt (by simp;omega),Tr.rg (by omega),Tr.rg (by omega)]
   unfold z82
   by_cases hp:fP b i≠fP a i
   ·rw[if_pos hp,Tr.rt (by simpa using Ne.symm hp),Tr.rg (by omega),Tr.rg (by simp only[zp,yy5];omega),Tr.rl,zl (by omega)]
   ·rw[if_neg hp,Tr.rf (by simp at hp;simp[hp]),Tr.rl,zl (by omega),List.append_nil]
 rw[zje,z7e,Tr.rb (zaio ha),Tr.rb (zaio hb),Tr.rb key,Tr.rl]
def allP (l:List Power):Int:=l.foldl (fun t p=>IntKind.i64.wrap (t+p.N)) 0
theorem za0p {l:List Power} (hl:l.length≤9223372036854775807):zpp l=some (allP l):=by
 have key:zss 0 l l.length 0=some (allP l):=by
  rw[zss]
  refine zb1 (F:=fun s:Int×(List Power)×Int×Int=>(zk1 s.1 s.2.1 s.2.2.1 s.2.2.2).run) l default (fun i t=>(t,l,(l.length:Int),(i:Int))) (fun _ _=>True) (fun t p=>IntKind.i64.wrap (t+p.N)) (fun t=>t) ?_ ?_ 0 trivial
  ·intro t _
   simp only[zk1];rw[Tr.rf (by simp),Tr.rl]
  ·intro i t hi _
   refine ⟨?_,trivial⟩
   simp only[zk1]
   rw[yy4,Tr.rt (by simpa using hi),Tr.rg ⟨by omega,by rw[zp];omega⟩,Tr.rl,zl (by omega)]
 rw[zpp,z3u,Tr.rb key,Tr.rl]
theorem zam5 {l:List Power} (hl:l.length≤9223372036854775807):zpu l=some (allP l):=by
 have key:ztd 0 l l.length 0=some (allP l):=by
  rw[ztd]
  refine zb1 (F:=fun s:Int×(List Power)×Int×Int=>(zk5 s.1 s.2.1 s.2.2.1 s.2.2.2).run) l default (fun i t=>(t,l,(l.length:Int),(i:Int))) (fun _ _=>True) (fun t p=>IntKind.i64.wrap (t+p.N)) (fun t=>t) ?_ ?_ 0 trivial
  ·intro t _
   simp only[zk5];rw[Tr.rf (by simp),Tr.rl]
  ·intro i t hi _
   refine ⟨?_,trivial⟩
   simp only[zk5]
   rw[yy4,Tr.rt (by simpa using hi),Tr.rg ⟨by omega,by rw[zp];omega⟩,Tr.rl,zl (by omega)]
 rw[zpu,z3x,Tr.rb key,Tr.rl]
theorem zwy {α:Type} (a:A6 α) {i j:Int} (y:α) (hi:0≤i∧i < 6) (hj:0≤j∧j < 6):(a.set i y).get j=if j=i then y else a.get j:=by
 obtain rfl | rfl | rfl | rfl | rfl | rfl:j=0∨j=1∨j=2∨j=3∨j=4∨j=5:=by omega
 all_goals
  obtain rfl | rfl | rfl | rfl | rfl | rfl:i=0∨i=1∨i=2∨i=3∨i=4∨i=5:=by omega
  all_goals rfl
theorem zhk {α:Type} (a:A6 α) {i:Int} (y:α) (hi:0≤i∧i < 6):(a.set i y).get i=y:=by rw[zwy a y hi hi,if_pos rfl]
theorem zgx {α:Type} (a:A6 α) {i j:Int} (y:α) (hi:0≤i∧i < 6) (hj:0≤j∧j < 6) (h:j≠i):(a.set i y).get j=a.get j:=by rw[zwy a y hi hj,if_neg h]
theorem z9q (a:A6 Int) {i:Int} (y:Int) (hi:0≤i∧i < 6):sum6 (a.set i y)=sum6 a - a.get i+y:=by
 obtain rfl | rfl | rfl | rfl | rfl | rfl:i=0∨i=1∨i=2∨i=3∨i=4∨i=5:=by omega
 ·show y+a.x1+a.x2+a.x3+a.x4+a.x5=a.x0+a.x1+a.x2+a.x3+a.x4+a.x5 - a.x0+y;omega
 ·show a.x0+y+a.x2+a.x3+a.x4+a.x5=a.x0+a.x1+a.x2+a.x3+a.x4+a.x5 - a.x1+y;omega
 ·show a.x0+a.x1+y+a.x3+a.x4+a.x5=a.x0+a.x1+a.x2+a.x3+a.x4+a.x5 - a.x2+y;omega
 ·show a.x0+a.x1+a.x2+y+a.x4+a.x5=a.x0+a.x1+a.x2+a.x3+a.x4+a.x5 - a.x3+y;omega
 ·show a.x0+a.x1+a.x2+a.x3+y+a.x5=a.x0+a.x1+a.x2+a.x3+a.x4+a.x5 - a.x4+y;omega
 ·show a.x0+a.x1+a.x2+a.x3+a.x4+y=a.x0+a.x1+a.x2+a.x3+a.x4+a.x5 - a.x5+y;omega
theorem zai6 (a:A4 (A6 Int)) (d v y:Int):A46.set a d v y=⟨if d=0 then a.x0.set v y else a.x0,if d=1 then a.x1.set v y else a.x1,if d=2 then a.x2.set v y else a.x2,if d=3 then a.x3.set v y else a.x3⟩:=by
 unfold A46.set A6.set
 congr 1
 ·by_cases h:d=0<;>simp[h]
 ·by_cases h:d=1<;>simp[h]
 ·by_cases h:d=2<;>simp[h]
 ·by_cases h:d=3<;>simp[h]
theorem zyh (a:A4 (A6 Int)) {d v d' v':Int} (y:Int) (hd:0≤d∧d < 4) (hv:0≤v∧v < 6) (hd':0≤d'∧d' < 4) (hv':0≤v'∧v' < 6):A46.get (A46.set a d v y) d' v'=if d'=d∧v'=v then y else A46.get a d' v':=by
 have key:∀ (p:Prop) [Decidable p] (r:A6 Int),(if p then r.set v y else r).get v'=if p∧v'=v then y else r.get v':=by
  intro p _ r
  by_cases h:p
  ·rw[if_pos h,zwy r y hv hv'];simp[h]
  ·rw[if_neg h,if_neg (fun x=>h x.1)]
 rw[zai6]
 obtain rfl | rfl | rfl | rfl:d'=0∨d'=1∨d'=2∨d'=3:=by omega
 ·refine (key (d=0) a.x0).trans ?_
  simp only[eq_comm (a:=d)];rfl
 ·refine (key (d=1) a.x1).trans ?_
  simp only[eq_comm (a:=d)];rfl
 ·refine (key (d=2) a.x2).trans ?_
  simp only[eq_comm (a:=d)];rfl
 ·refine (key (d=3) a.x3).trans ?_
  simp only[eq_comm (a:=d)];rfl
theorem zyi {s t:Stake} {v:Int} (hT:t.Validators.Tokens.get v=s.Validators.Tokens.get v) (hS:t.Validators.Shares.get v=s.Validators.Shares.get v) (hL:t.Validators.Lost.get v=s.Validators.Lost.get v)
  (hJ:t.Validators.Jailed.get v=s.Validators.Jailed.get v) (hD:t.Validators.Dead.get v=s.Validators.Dead.get v) (hs:∀ d:Int,0≤d→d < 4→A46.get t.Shares d v=A46.get s.Shares d v) (h:z84 s v):z84 t v:=by
 obtain ⟨h1,h2,h3⟩:=h
 unfold z84 zabv shr
 rw[hT,hS,hL,hJ,hD,hs 0 (by omega) (by omega),hs 1 (by omega) (by omega),hs 2 (by omega) (by omega),hs 3 (by omega) (by omega)]
 exact ⟨h1,fun d hd=>by rw[hs d (by omega) (by omega)];exact h2 d hd,h3⟩
theorem zabz {n n':Int}:∀ {l:List Wait} {p p':Int},zgw n p l→n≤n'→p'≤p→zgw n' p' l
 | [],_,_,_,_,_=>trivial
 | w::l,p,p',h,hn,hp=>by
  obtain ⟨h1,h2,h3⟩:=h.1
  exact ⟨⟨by omega,by omega,h3⟩,zabz h.2 hn (Int.le_refl _)⟩
theorem zab0 {n:Int} {w:Wait} (hw:w.Number=n) (h:0≤w.D∧w.D < 4∧0≤w.V∧w.V < 6∧inA w.Amount∧0≤w.Height∧0≤w.Due):∀ {l:List Wait} {p:Int},p < n→zgw n p l→zgw (n+1) p (l++[w])
 | [],p,hp,_=>⟨⟨by omega,by omega,h⟩,trivial⟩
 | a::l,p,hp,hl=>by
  obtain ⟨h1,h2,h3⟩:=hl.1
  exact ⟨⟨h1,by omega,h3⟩,zab0 hw h (by omega) hl.2⟩
theorem z1q {n:Int} {f:Wait→Wait} (hf:∀ w,inA w.Amount→(f w).Number=w.Number∧(f w).D=w.D∧(f w).V=w.V∧inA (f w).Amount∧(f w).Height=w.Height∧(f w).Due=w.Due):∀ {l:List Wait} {p:Int},zgw n p l→zgw n p (l.map f)
 | [],_,_=>trivial
 | w::l,p,h=>by
  obtain ⟨h1,h2,h3,h4,h5,h6,h7,h8,h9⟩:=h.1
  obtain ⟨e1,e2,e3,e4,e5,e6⟩:=hf w h7
  refine ⟨⟨by rw[e1];exact h1,by rw[e1];exact h2,by rw[e2];exact h3,by rw[e2];exact h4,by rw[e3];exact h5,by rw[e3];exact h6,e4,by rw[e5];exact h8,by rw[e6];exact h9⟩,?_⟩
  rw[e1]
  exact z1q hf h.2
theorem znt {n:Int} (q:Wait→Bool):∀ {l:List Wait} {p:Int},zgw n p l→zgw n p (l.filter q)
 | [],_,_=>trivial
 | w::l,p,h=>by
  rw[List.filter_cons]
  split
  ·exact ⟨h.1,znt q h.2⟩
  ·exact zabz (znt q h.2) (Int.le_refl _) (Int.le_of_lt h.1.1)
theorem zaxl (l m:List Wait):ztu (l++m)=ztu l+ztu m:=by
 induction l with
 | nil=>simp[ztu]
 | cons a l ih=>simp only[List.cons_append,ztu,ih];omega
theorem zala (q:Wait→Bool) (l:List Wait):ztu (l.filter q)+ztu (l.filter (fun w => !q w))=ztu l:=by
 induction l with
 | nil=>rfl
 | cons a l ih =>
  rw[List.filter_cons,List.filter_cons]
  cases q a
  ·simp only[Bool.not_false,if_true,ztu];rw[if_neg (by simp)];omega
  ·simp only[Bool.not_true,if_true,ztu];rw[if_neg (by simp)];omega
theorem zam6 {b:Bank} {d n:Int} (h:(zr0 b d n).2=0):zhi (zr0 b d n).1∧0≤n∧n≤400000∧(zr0 b d n).1.Bonded=b.Bonded+n∧(zr0 b d n).1.Waiting=b.Waiting∧(zr0 b d n).1.Burnt=b.Burnt:=by
 have k:=zaru (b:=b) (d:=d) (n:=n)
 rcases k with ⟨k,_⟩ | ⟨_,g1,g2,_⟩
 ·exact absurd h k
 have hd:¬ (d < 0∨3 < d):=by
  intro hd
  unfold zr0 at h
  rw[if_pos hd] at h;cases h
 have e:zr0 b d n=zch b d 4 n:=by unfold zr0;rw[if_neg hd]
 rw[e] at h g2 ⊢
 obtain ⟨m1,m2,m3,m4,m5⟩:=zags h
 have m6:=zaix m1 d
 unfold okN at m6
 refine ⟨g2,m2,by omega,?_⟩
 rw[m5]
 obtain rfl | rfl | rfl | rfl:d=0∨d=1∨d=2∨d=3:=by omega
 all_goals simp[zmh,bkA,plA,A7.get,A7.set]
theorem zar6 {s:Stake} (hg:GoodS s) {b:Bank} {d v n k:Int} (hd:0≤d∧d < 4) (hv:0≤v∧v < 6) (hb:zhi b) (hb1:b.Bonded=s.Bank.Bonded+n) (hb2:b.Waiting=s.Bank.Waiting) (hb3:b.Burnt=s.Bank.Burnt)
  (hn:0≤n∧n≤400000) (hk:1≤k) (hS:s.Validators.Shares.get v+k≤1125899906842624):GoodS (addS s b d v n k):=by
 obtain ⟨g1,g2,g3,g4,g5,g6,g7⟩:=hg
 have hg:GoodS s:=⟨g1,g2,g3,g4,g5,g6,g7⟩
 have htok:=z06 hg hv
 have o2:okN s.Bank.Bonded:=g1.2.2.2.2.1
 unfold okN at o2
 refine ⟨hb,g2,fun u hu=>?_,g4,?_,?_,?_⟩
 ·have hu':0≤(u:Int)∧(u:Int) < 6:=by omega
  by_cases he:(u:Int)=v
  ·obtain ⟨⟨q1,q2,q3,q4,q5⟩,q6,q7⟩:=hg.at hv
   have hle:=z58 hg hd hv
   have r0:=hg.shr (d:=0) (by omega) hv;have r1:=hg.shr (d:=1) (by omega) hv;have r2:=hg.shr (d:=2) (by omega) hv;have r3:=hg.shr (d:=3) (by omega) hv
   unfold zabv shr at q7
   rw[he]
   have sh:∀ d':Int,0≤d'→d' < 4→A46.get (addS s b d v n k).Shares d' v=if d'=d then A46.get s.Shares d v+k else A46.get s.Shares d' v:=fun d' h0 h1=>by
    show A46.get (A46.set s.Shares d v (A46.get s.Shares d v+k)) d' v=_
    rw[zyh _ _ hd hv ⟨h0,h1⟩ hv]
    by_cases h:d'=d
    ·rw[if_pos ⟨h,rfl⟩,if_pos h]
    ·rw[if_neg (fun x=>h x.1),if_neg h]
   have eT:(addS s b d v n k).Validators.Tokens.get v=s.Validators.Tokens.get v+n:=zhk _ _ hv
   have eS:(addS s b d v n k).Validators.Shares.get v=s.Validators.Shares.get v+k:=zhk _ _ hv
   unfold inA at q1 q2
   refine ⟨⟨?_,?_,q3,?_,q5⟩,fun d' hd'=>?_,?_⟩
   ·rw[eT];unfold inA;omega
   ·rw[eS];unfold inA;omega
   ·rw[eT,eS];omega
   ·unfold shr
    rw[sh d' (by omega) (by omega)]
    split
    ·have:=hg.shr hd hv;unfold inA;omega
    ·exact q6 d' hd'
   ·unfold zabv shr
    rw[eS,sh 0 (by omega) (by omega),sh 1 (by omega) (by omega),sh 2 (by omega) (by omega),sh 3 (by omega) (by omega)]
    obtain rfl | rfl | rfl | rfl:d=0∨d=1∨d=2∨d=3:=by omega
    all_goals
     simp
     omega
  ·refine zyi (zgx _ _ hv hu' he) (zgx _ _ hv hu' he) rfl rfl rfl (fun d' h0 h1=>?_) (g3 u hu)
   show A46.get (A46.set s.Shares d v (A46.get s.Shares d v+k)) d' u=_
   rw[zyh _ _ hd hv ⟨h0,h1⟩ hu',if_neg (fun x=>he x.2)]
 ·show sum6 (s.Validators.Tokens.set v (s.Validators.Tokens.get v+n))=b.Bonded
  rw[z9q _ _ hv,g5,hb1];omega
 ·show ztu s.Waits=b.Waiting
  rw[hb2];exact g6
 ·show sum6 s.Validators.Lost=b.Burnt
  rw[hb3];exact g7
theorem zalb {s:Stake} {d v n:Int} (h:(zez s d v n).2=0):GoodS s∧(0≤d∧d < 4)∧(0≤v∧v < 6)∧s.Validators.Dead.get v≠true∧(1≤n∧n≤400000)∧¬ (s.Validators.Shares.get v≠0∧s.Validators.Tokens.get v=0)∧(zcw s v n).2=0 ∧
  s.Validators.Shares.get v+(zcw s v n).1≤1125899906842624∧1≤(zcw s v n).1∧(zr0 s.Bank d n).2=0∧zez s d v n=(addS s (zr0 s.Bank d n).1 d v n (zcw s v n).1,0):=by
 unfold zez at h ⊢
 by_cases h0:ze2 s d v≠0
 ·rw[if_pos h0] at h;exact absurd h h0
 ·rw[if_neg h0] at h ⊢
  obtain ⟨hg,hd,hv⟩:=zi2 (Decidable.not_not.1 h0)
  by_cases h1:s.Validators.Dead.get v=true
  ·rw[if_pos h1] at h;cases h
  ·rw[if_neg h1] at h ⊢
   by_cases h2:n < 1∨1125899906842624 < n
   ·rw[if_pos h2] at h;cases h
   ·rw[if_neg h2] at h ⊢
    by_cases h3:s.Validators.Shares.get v≠0∧s.Validators.Tokens.get v=0
    ·rw[if_pos h3] at h;cases h
    ·rw[if_neg h3] at h ⊢
     by_cases h4:(zcw s v n).2≠0∨1125899906842624 < s.Validators.Shares.get v+(zcw s v n).1
     ·rw[if_pos h4] at h;cases h
     ·rw[if_neg h4] at h ⊢
      by_cases h5:(zcw s v n).1 < 1
      ·rw[if_pos h5] at h;cases h
      ·rw[if_neg h5] at h ⊢
       by_cases h6:(zr0 s.Bank d n).2≠0
       ·rw[if_pos h6] at h;exact absurd h h6
       ·rw[if_neg h6]
        have hb:=zam6 (Decidable.not_not.1 h6)
        exact ⟨hg,hd,hv,h1,⟨by omega,hb.2.2.1⟩,h3,by omega,by omega,by omega,Decidable.not_not.1 h6,rfl⟩
theorem zag1 {s:Stake} {d v n:Int} (h:(zez s d v n).2=0):GoodS (zez s d v n).1:=by
 obtain ⟨hg,hd,hv,_,hn,_,_,h1,h2,h3,h4⟩:=zalb h
 obtain ⟨b1,b2,b3,b4,b5,b6⟩:=zam6 h3
 rw[h4]
 exact zar6 hg hd hv b1 b4 b5 b6 (by omega) h2 h1
theorem zaou {b:Bank} {n:Int} (h:(zch b 4 5 n).2=0):zhi (zch b 4 5 n).1∧0≤n∧n≤b.Bonded∧(zch b 4 5 n).1.Bonded=b.Bonded - n∧(zch b 4 5 n).1.Waiting=b.Waiting+n∧(zch b 4 5 n).1.Burnt=b.Burnt:=by
 obtain ⟨m1,m2,m3,m4,m5⟩:=zags h
 refine ⟨by rw[m5];exact (ztp (.inr (.inl ⟨rfl,rfl⟩)) m1 m2 m4).1,m2,m4,?_⟩
 rw[m5]
 simp[zmh,bkA,plA,A7.get,A7.set]
theorem zag2 {s:Stake} {d v k:Int} {w:Wait} (h:(zbr s d v k w).2=0):GoodS s∧(0≤d∧d < 4)∧(0≤v∧v < 6)∧(1≤k∧k≤A46.get s.Shares d v)∧(0≤w.Height∧0≤w.Due)∧s.Waits.length < 60∧s.Next < 1125899906842624∧1≤zhj s v k ∧
  (zch s.Bank 4 5 (zhj s v k)).2=0∧zbr s d v k w=(subS s (zch s.Bank 4 5 (zhj s v k)).1 d v (zhj s v k) k w,0):=by
 unfold zbr at h ⊢
 by_cases h0:ze2 s d v≠0
 ·rw[if_pos h0] at h;exact absurd h h0
 ·rw[if_neg h0] at h ⊢
  obtain ⟨hg,hd,hv⟩:=zi2 (Decidable.not_not.1 h0)
  by_cases h1:k < 1∨1125899906842624 < k∨w.Height < 0∨w.Due < 0
  ·rw[if_pos h1] at h;cases h
  ·rw[if_neg h1] at h ⊢
   by_cases h2:A46.get s.Shares d v < k
   ·rw[if_pos h2] at h;cases h
   ·rw[if_neg h2] at h ⊢
    by_cases h3:60≤s.Waits.length∨1125899906842624≤s.Next
    ·rw[if_pos h3] at h;cases h
    ·rw[if_neg h3] at h ⊢
     by_cases h4:zhj s v k < 1
     ·rw[if_pos h4] at h;cases h
     ·rw[if_neg h4] at h ⊢
      by_cases h6:(zch s.Bank 4 5 (zhj s v k)).2≠0
      ·rw[if_pos h6] at h;exact absurd h h6
      ·rw[if_neg h6]
       exact ⟨hg,hd,hv,by omega,by omega,by omega,by omega,by omega,Decidable.not_not.1 h6,rfl⟩
theorem zaxm {s:Stake} (hg:GoodS s) {v k:Int} (hv:0≤v∧v < 6) (h0:0≤k) (h1:k≤s.Validators.Shares.get v):zhj s v k≤s.Validators.Tokens.get v:=by
 obtain ⟨⟨q1,q2,q3,q4,q5⟩,q6,q7⟩:=hg.at hv
 unfold zhj zjq
 by_cases h:k < 0∨s.Validators.Tokens.get v < 0∨s.Validators.Shares.get v < 1
 ·rw[if_pos h];exact q1.1
 ·rw[if_neg h]
  have h2:k*s.Validators.Tokens.get v / s.Validators.Shares.get v≤s.Validators.Tokens.get v:=by
   have h3:k*s.Validators.Tokens.get v≤s.Validators.Shares.get v*s.Validators.Tokens.get v:=Int.mul_le_mul_of_nonneg_right h1 q1.1
   have h4:=Int.ediv_le_ediv (c:=s.Validators.Shares.get v) (by omega) h3
   rwa [Int.mul_ediv_cancel_left _ (by omega)] at h4
  split
  ·exact q1.1
  ·exact h2
theorem zaov {s:Stake} (hg:GoodS s) {v k:Int} (hv:0≤v∧v < 6) (h0:1≤k) (h:k=s.Validators.Shares.get v):zhj s v k=s.Validators.Tokens.get v:=zai0 h0 (hg.at hv).1.1 h
theorem zab1 {s:Stake} {d v k:Int} {w:Wait} (h:(zbr s d v k w).2=0):GoodS (zbr s d v k w).1:=by
 obtain ⟨hg,hd,hv,hk,hw,h60,hN,hn,hm,e⟩:=zag2 h
 rw[e]
 obtain ⟨b1,b2,b3,b4,b5,b6⟩:=zaou hm
 have hle:=z58 hg hd hv
 have hwl:=zaxm hg hv (by omega) (Int.le_trans hk.2 hle)
 have hall:k=s.Validators.Shares.get v→zhj s v k=s.Validators.Tokens.get v:=fun h=>zaov hg hv hk.1 h
 obtain ⟨b,hb⟩:∃ b,b=(zch s.Bank 4 5 (zhj s v k)).1:=⟨_,rfl⟩
 obtain ⟨n,hnn⟩:∃ n,n=zhj s v k:=⟨_,rfl⟩
 rw[← hb] at b1 b4 b5 b6 ⊢
 rw[← hnn] at b4 b5 ⊢
 rw[← hnn] at hn b2 b3 hwl hall
 obtain ⟨g1,g2,g3,g4,g5,g6,g7⟩:=id hg
 have o2:okN s.Bank.Bonded:=g1.2.2.2.2.1
 unfold okN at o2
 refine ⟨b1,⟨?_,?_,?_⟩,fun u hu=>?_,?_,?_,?_,?_⟩
 ·show 1≤s.Next+1;omega
 ·show s.Next+1≤_;omega
 ·show (s.Waits++[outW s d v n w]).length≤60
  rw[yy6];simp;omega
 ·have hu':0≤(u:Int)∧(u:Int) < 6:=by omega
  by_cases he:(u:Int)=v
  ·obtain ⟨⟨q1,q2,q3,q4,q5⟩,q6,q7⟩:=hg.at hv
   have r0:=hg.shr (d:=0) (by omega) hv;have r1:=hg.shr (d:=1) (by omega) hv;have r2:=hg.shr (d:=2) (by omega) hv;have r3:=hg.shr (d:=3) (by omega) hv
   unfold zabv shr at q7
   rw[he]
   have sh:∀ d':Int,0≤d'→d' < 4→A46.get (subS s b d v n k w).Shares d' v=if d'=d then A46.get s.Shares d v - k else A46.get s.Shares d' v:=fun d' h0 h1=>by
    show A46.get (A46.set s.Shares d v (A46.get s.Shares d v - k)) d' v=_
    rw[zyh _ _ hd hv ⟨h0,h1⟩ hv]
    by_cases h:d'=d
    ·rw[if_pos ⟨h,rfl⟩,if_pos h]
    ·rw[if_neg (fun x=>h x.1),if_neg h]
   have eT:(subS s b d v n k w).Validators.Tokens.get v=s.Validators.Tokens.get v - n:=zhk _ _ hv
   have eS:(subS s b d v n k w).Validators.Shares.get v=s.Validators.Shares.get v - k:=zhk _ _ hv
   unfold inA at q1 q2
   refine ⟨⟨?_,?_,q3,?_,q5⟩,fun d' hd'=>?_,?_⟩
   ·rw[eT];unfold inA;omega
   ·rw[eS];unfold inA;omega
   ·rw[eT,eS];omega
   ·unfold shr
    rw[sh d' (by omega) (by omega)]
    split
    ·have:=hg.shr hd hv;unfold inA;omega
    ·exact q6 d' hd'
   ·unfold zabv shr
    rw[eS,sh 0 (by omega) (by omega),sh 1 (by omega) (by omega),sh 2 (by omega) (by omega),sh 3 (by omega) (by omega)]
    obtain rfl | rfl | rfl | rfl:d=0∨d=1∨d=2∨d=3:=by omega
    all_goals
     simp
     omega
  ·refine zyi (zgx _ _ hv hu' he) (zgx _ _ hv hu' he) rfl rfl rfl (fun d' h0 h1=>?_) (g3 u hu)
   show A46.get (A46.set s.Shares d v (A46.get s.Shares d v - k)) d' u=_
   rw[zyh _ _ hd hv ⟨h0,h1⟩ hu',if_neg (fun x=>he x.2)]
 ·exact zab0 (w:=outW s d v n w) rfl ⟨hd.1,hd.2,hv.1,hv.2,⟨by show 0≤n;omega,by show n≤1125899906842624;omega⟩,hw.1,hw.2⟩ (show (0:Int) < s.Next by have:=g2.1;omega) g4
 ·show sum6 (s.Validators.Tokens.set v (s.Validators.Tokens.get v - n))=b.Bonded
  rw[z9q _ _ hv,g5,b4];omega
 ·show ztu (s.Waits++[outW s d v n w])=b.Waiting
  rw[zaxl,g6,b5]
  show s.Bank.Waiting+(n+0)=_
  omega
 ·show sum6 s.Validators.Lost=b.Burnt
  rw[b6];exact g7
theorem zag3 {f:Wait→Wait} (hf:∀ w,(f w).Amount=w.Amount):∀ l:List Wait,ztu (l.map f)=ztu l
 | []=>rfl
 | w::l=>by simp only[List.map_cons,ztu,hf,zag3 hf l]
theorem z8o {s:Stake} {c h:Int} (hg:GoodS s):GoodS (zlk s c h):=by
 obtain ⟨g1,g2,g3,g4,g5,g6,g7⟩:=hg
 refine ⟨g1,⟨g2.1,g2.2.1,?_⟩,g3,?_,g5,?_,g7⟩
 ·show (s.Waits.map (relW c h)).length≤60
  rw[List.length_map];exact g2.2.2
 ·exact z1q (f:=relW c h) (fun w hw=>⟨rfl,rfl,rfl,hw,rfl,rfl⟩) g4
 ·show ztu (s.Waits.map (relW c h))=_
  rw[zag3 (f:=relW c h) (fun _=>rfl)];exact g6
theorem zam7 {s:Stake} {v what:Int} (h:(zcx s v what).2=0):GoodS s∧(0≤v∧v < 6)∧¬ (what=0∧s.Validators.Jailed.get v=true)∧¬ (0 < what∧s.Validators.Dead.get v=true)∧¬ (what=1∧s.Validators.Jailed.get v=false) ∧
  zcx s v what=(z7p s v (what != 1) (what==2),0):=by
 unfold zcx at h ⊢
 by_cases h0:ze2 s 0 v≠0
 ·rw[if_pos h0] at h;exact absurd h h0
 ·rw[if_neg h0] at h ⊢
  obtain ⟨hg,hd,hv⟩:=zi2 (Decidable.not_not.1 h0)
  by_cases h1:what=0∧s.Validators.Jailed.get v=true
  ·rw[if_pos h1] at h;cases h
  ·rw[if_neg h1] at h ⊢
   by_cases h2:0 < what∧s.Validators.Dead.get v=true
   ·rw[if_pos h2] at h;cases h
   ·rw[if_neg h2] at h ⊢
    by_cases h3:what=1∧s.Validators.Jailed.get v=false
    ·rw[if_pos h3] at h;cases h
    ·rw[if_neg h3]
     exact ⟨hg,hv,h1,h2,h3,rfl⟩
theorem zar7 {s:Stake} {v what:Int} (h:(zcx s v what).2≠0):(zcx s v what).1=s:=by
 unfold zcx at h ⊢
 repeat' split
 all_goals first | rfl | skip
 rename_i h0 h1 h2 h3
 rw[if_neg h0,if_neg h1,if_neg h2,if_neg h3] at h
 exact absurd rfl h
theorem zaow {s:Stake} {v what:Int} (hw:what=0∨what=1∨what=2) (h:(zcx s v what).2=0):GoodS (zcx s v what).1:=by
 obtain ⟨hg,hv,h1,h2,h3,e⟩:=zam7 h
 rw[e]
 obtain ⟨g1,g2,g3,g4,g5,g6,g7⟩:=id hg
 refine ⟨g1,g2,fun u hu=>?_,g4,g5,g6,g7⟩
 have hu':0≤(u:Int)∧(u:Int) < 6:=by omega
 by_cases he:(u:Int)=v
 ·obtain ⟨⟨q1,q2,q3,q4,q5⟩,q6,q7⟩:=hg.at hv
  rw[he]
  have eJ:(z7p s v (what != 1) (what==2)).Validators.Jailed.get v=(what != 1):=zhk _ _ hv
  have eD:(z7p s v (what != 1) (what==2)).Validators.Dead.get v=(what==2):=zhk _ _ hv
  refine ⟨⟨q1,q2,q3,q4,?_⟩,q6,q7⟩
  rw[eJ,eD]
  rcases hw with rfl | rfl | rfl<;>simp
 ·exact zyi (s:=s) rfl rfl rfl (zgx _ _ hv hu' he) (zgx _ _ hv hu' he) (fun _ _ _=>rfl) (g3 u hu)
theorem zab2 (time:Int):∀ (l:List Wait) (b:Bank) (L:List Wait) (P:List Int),l.foldl (payF time) (b,L,P)=((l.filter (dueW time)).foldl (fun b w=>(payB b w.D w.Amount).1) b,L++l.filter (fun w => !dueW time w),P++(l.filter (dueW time)).map (·.Number))
 | [],b,L,P=>by simp
 | w::l,b,L,P=>by
  rw[List.foldl_cons,List.filter_cons,List.filter_cons]
  by_cases h:dueW time w=true
  ·have e:payF time (b,L,P) w=((payB b w.D w.Amount).1,L,P++[w.Number]):=by unfold payF;rw[if_pos h]
   rw[e,zab2 time l,if_pos h,if_neg (by simp[h]),List.foldl_cons,List.map_cons,List.append_assoc]
   rfl
  ·have e:payF time (b,L,P) w=(b,L++[w],P):=by unfold payF;rw[if_neg h]
   rw[e,zab2 time l,if_neg h,if_pos (by simpa using h),List.append_assoc]
   rfl
def zalc (s:Stake) (time:Int):Bank:=(s.Waits.filter (dueW time)).foldl (fun b w=>(payB b w.D w.Amount).1) s.Bank
theorem zar8 {s:Stake} (hg:GoodS s) (time:Int):payS s time=({ s with Bank:=zalc s time,Waits:=s.Waits.filter (fun w => !dueW time w) },(s.Waits.filter (dueW time)).map (·.Number),0):=by
 unfold payS zalc
 rw[if_neg (by simpa using hg),zab2]
 simp only[List.nil_append]
theorem zai7:∀ {l:List Wait} {b:Bank} {n p:Int},zgw n p l→zhi b→ztu l≤b.Waiting →
  zhi (l.foldl (fun b w=>(payB b w.D w.Amount).1) b)∧(l.foldl (fun b w=>(payB b w.D w.Amount).1) b).Waiting=b.Waiting - ztu l∧(l.foldl (fun b w=>(payB b w.D w.Amount).1) b).Bonded=b.Bonded∧(l.foldl (fun b w=>(payB b w.D w.Amount).1) b).Burnt=b.Burnt
 | [],b,n,p,_,hb,_=>⟨hb,by show b.Waiting=b.Waiting - 0;omega,rfl,rfl⟩
 | w::l,b,n,p,hw,hb,hs=>by
  obtain ⟨_,_,d0,d1,_,_,ha,_,_⟩:=hw.1
  have hn:=zwx hw.2
  simp only[ztu] at hs
  obtain ⟨_,p2,p3,p4,p5⟩:=zary hb ⟨d0,d1⟩ ha (by omega)
  obtain ⟨k1,k2,k3,k4⟩:=zai7 hw.2 p2 (by rw[p3];omega)
  rw[List.foldl_cons]
  refine ⟨k1,?_,k3.trans p4,k4.trans p5⟩
  rw[k2,p3]
  simp only[ztu];omega
theorem zaxn {s:Stake} (hg:GoodS s) (time:Int):zhi (zalc s time)∧(zalc s time).Waiting=ztu (s.Waits.filter (fun w => !dueW time w))∧(zalc s time).Bonded=s.Bank.Bonded∧(zalc s time).Burnt=s.Bank.Burnt:=by
 have h1:=zala (dueW time) s.Waits
 have h2:=zwx (znt (fun w => !dueW time w) hg.2.2.2.1)
 have h3:=hg.2.2.2.2.2.1
 obtain ⟨k1,k2,k3,k4⟩:=zai7 (znt (dueW time) hg.2.2.2.1) hg.1 (by omega)
 exact ⟨k1,by unfold zalc;rw[k2];omega,k3,k4⟩
theorem zag4 {s:Stake} (hg:GoodS s) (time:Int):GoodS (payS s time).1:=by
 rw[zar8 hg]
 obtain ⟨k1,k2,k3,k4⟩:=zaxn hg time
 obtain ⟨g1,g2,g3,g4,g5,g6,g7⟩:=hg
 refine ⟨k1,⟨g2.1,g2.2.1,?_⟩,g3,znt _ g4,?_,?_,?_⟩
 ·exact Nat.le_trans (List.length_filter_le _ _) g2.2.2
 ·rw[k3];exact g5
 ·exact k2.symm
 ·rw[k4];exact g7
theorem zar9 (v h f:Int):∀ (l:List Wait) (t:Int),l.foldl (fun t w=>t+slN v h f w) t=t+(ztu l - ztu (l.map (slW v h f)))
 | [],t=>by simp[ztu]
 | w::l,t=>by
  rw[List.foldl_cons,zar9 v h f l,List.map_cons]
  simp only[ztu]
  have:(slW v h f w).Amount=w.Amount - slN v h f w:=by
   unfold slW slN
   split
   ·rfl
   ·omega
  rw[this];omega
theorem zam8 {s:Stake} {v h f:Int} (hs:(zjr s v h f).2.2=0):GoodS s∧(0≤v∧v < 6)∧(0≤f∧f≤1000)∧0≤zgs s v f∧zgs s v f≤s.Validators.Tokens.get v∧0≤sumN v h f s.Waits∧sumN v h f s.Waits≤s.Bank.Waiting ∧
  zjr s v h f=(⟨⟨s.Bank.Free,s.Bank.Bonded - zgs s v f,s.Bank.Waiting - sumN v h f s.Waits,s.Bank.Burnt+zgs s v f+sumN v h f s.Waits⟩,{ s.Validators with Tokens:=s.Validators.Tokens.set v (s.Validators.Tokens.get v - zgs s v f),Lost:=s.Validators.Lost.set v (s.Validators.Lost.get v+(zgs s v f+sumN v h f s.Waits)) },s.Shares,s.Waits.map (slW v h f),s.Next⟩,zgs s v f+sumN v h f s.Waits,0) ∧
  zhi ⟨s.Bank.Free,s.Bank.Bonded - zgs s v f,s.Bank.Waiting - sumN v h f s.Waits,s.Bank.Burnt+zgs s v f+sumN v h f s.Waits⟩:=by
 unfold zjr at hs ⊢
 by_cases h0:ze2 s 0 v≠0
 ·rw[if_pos h0] at hs;exact absurd hs h0
 ·rw[if_neg h0] at hs ⊢
  obtain ⟨hg,hd,hv⟩:=zi2 (Decidable.not_not.1 h0)
  by_cases hf:f < 0∨1000 < f
  ·rw[if_pos hf] at hs;cases hs
  ·rw[if_neg hf]
   have hf':0≤f∧f≤1000:=by omega
   obtain ⟨_,b2,b3⟩:=zo1 (hg.at hv).1.1 hf'
   obtain ⟨s1,s2⟩:=zak7 hg (v:=v) (h:=h) hf'
   obtain ⟨k1,k2⟩:=zam2 hg.1 b2 (Int.le_trans b3 (z06 hg hv).1) s1 s2
   refine ⟨hg,hv,hf',b2,b3,s1,s2,?_,?_⟩
   ·unfold zgs;rw[k1]
   ·rw[k1] at k2;exact k2
theorem zasa {s:Stake} {v h f:Int} (hs:(zjr s v h f).2.2≠0):(zjr s v h f).1=s∧(zjr s v h f).2.1=0:=by
 unfold zjr at hs ⊢
 split
 ·exact ⟨rfl,rfl⟩
 ·split
  ·exact ⟨rfl,rfl⟩
  ·rename_i h0 h1
   rw[if_neg h0,if_neg h1] at hs
   exact absurd rfl hs
theorem zaox {s:Stake} {v h f:Int} (hs:(zjr s v h f).2.2=0):GoodS (zjr s v h f).1:=by
 obtain ⟨hg,hv,hf,b1,b2,s1,s2,e,hb⟩:=zam8 hs
 rw[e]
 obtain ⟨x,hx⟩:∃ x,x=zgs s v f:=⟨_,rfl⟩
 obtain ⟨y,hy⟩:∃ y,y=sumN v h f s.Waits:=⟨_,rfl⟩
 have hsum:y=ztu s.Waits - ztu (s.Waits.map (slW v h f)):=by
  rw[hy];unfold sumN;rw[zar9];omega
 have hall:zgs s v f≤s.Validators.Tokens.get v:=b2
 rw[← hx] at b1 b2 hb ⊢
 rw[← hy] at s1 s2 hb ⊢
 obtain ⟨g1,g2,g3,g4,g5,g6,g7⟩:=id hg
 have htok:=z06 hg hv
 have o2:okN (s.Bank.Burnt+x+y):=hb.2.2.2.2.2.2.1
 unfold okN at o2
 refine ⟨hb,⟨g2.1,g2.2.1,?_⟩,fun u hu=>?_,?_,?_,?_,?_⟩
 ·show (s.Waits.map (slW v h f)).length≤60
  rw[List.length_map];exact g2.2.2
 ·have hu':0≤(u:Int)∧(u:Int) < 6:=by omega
  by_cases he:(u:Int)=v
  ·obtain ⟨⟨q1,q2,q3,q4,q5⟩,q6,q7⟩:=hg.at hv
   rw[he]
   unfold inA at q1 q3
   refine ⟨⟨?_,q2,?_,?_,q5⟩,q6,q7⟩
   ·show inA ((s.Validators.Tokens.set v (s.Validators.Tokens.get v - x)).get v)
    rw[zhk _ _ hv];unfold inA;omega
   ·show inA ((s.Validators.Lost.set v (s.Validators.Lost.get v+(x+y))).get v)
    rw[zhk _ _ hv];unfold inA;omega
   ·show ¬ (s.Validators.Shares.get v=0∧0 < (s.Validators.Tokens.set v (s.Validators.Tokens.get v - x)).get v)
    rw[zhk _ _ hv];omega
  ·exact zyi (zgx _ _ hv hu' he) rfl (zgx _ _ hv hu' he) rfl rfl (fun _ _ _=>rfl) (g3 u hu)
 ·refine z1q (fun w hw=>?_) g4
  have hp:=zo1 hw hf
  unfold slW
  split
  ·exact ⟨rfl,rfl,rfl,⟨by show 0≤w.Amount - _;omega,by show w.Amount - _≤_;unfold inA at hw;omega⟩,rfl,rfl⟩
  ·exact ⟨rfl,rfl,rfl,hw,rfl,rfl⟩
 ·show sum6 (s.Validators.Tokens.set v (s.Validators.Tokens.get v - x))=s.Bank.Bonded - x
  rw[z9q _ _ hv,g5];omega
 ·show ztu (s.Waits.map (slW v h f))=s.Bank.Waiting - y
  omega
 ·show sum6 (s.Validators.Lost.set v (s.Validators.Lost.get v+(x+y)))=s.Bank.Burnt+x+y
  rw[z9q _ _ hv,g7];omega
theorem zaxo {s:Stake} (hg:GoodS s) {p:Power} (h:p∈setS s):(0≤p.V∧p.V < 6)∧s.Validators.Jailed.get p.V=false∧p.N=s.Validators.Tokens.get p.V / 100∧1≤p.N:=by
 obtain ⟨v,hv,h1,rfl⟩:=mem_setOf.1 h
 have e:topF (nvF s) v=nvF s v:=by
  unfold topF at h1 ⊢
  split
  ·rfl
  ·rename_i hn;rw[if_neg hn] at h1;omega
 rw[e] at h1
 have hj:s.Validators.Jailed.get v=false:=by
  unfold nvF at h1
  cases hj:s.Validators.Jailed.get v
  ·rfl
  ·rw[hj,if_pos rfl] at h1;omega
 refine ⟨by show 0≤(v:Int)∧(v:Int) < 6;omega,hj,?_,by show 1≤topF (nvF s) v;rw[e];omega⟩
 show topF (nvF s) v=_
 rw[e]
 unfold nvF
 rw[hj];rfl
theorem zaer {s:Stake} (hg:GoodS s) {d v:Int} (hd:0≤d∧d < 4) (hv:0≤v∧v < 6):ze2 s d v=0:=by
 unfold ze2
 rw[if_neg (by simpa using hg),if_neg (by omega)]
def Kept (s t:Stake) (e:Int):Prop :=
 GoodS t∧(e≠0→t=s)∧s.Bank.Burnt≤t.Bank.Burnt∧∀ v:Int,0≤v→v < 6→(s.Validators.Dead.get v=true→t.Validators.Dead.get v=true)∧s.Validators.Lost.get v≤t.Validators.Lost.get v
theorem Kept.same {s:Stake} (hg:GoodS s) (e:Int):Kept s s e:=⟨hg,fun _=>rfl,Int.le_refl _,fun _ _ _=>⟨id,Int.le_refl _⟩⟩
theorem zaoy {s:Stake} (hg:GoodS s) (v:Int) {what:Int} (hw:what=0∨what=1∨what=2):Kept s (zcx s v what).1 (zcx s v what).2:=by
 by_cases h:(zcx s v what).2=0
 ·have hga:=zaow hw h
  obtain ⟨_,hv,h1,h2,h3,e⟩:=zam7 h
  rw[e] at hga ⊢
  refine ⟨hga,fun h=>absurd rfl h,Int.le_refl _,fun u h0 h6=>⟨fun hd=>?_,Int.le_refl _⟩⟩
  show (s.Validators.Dead.set v (what==2)).get u=true
  rw[zwy _ _ hv ⟨h0,h6⟩]
  split
  ·rename_i huv
   rw[huv] at hd
   rcases hw with rfl | rfl | rfl
   ·have:=(hg.at hv).1.2.2.2.2
    cases hj:s.Validators.Jailed.get v
    ·exact absurd ⟨hd,hj⟩ this
    ·exact absurd ⟨rfl,hj⟩ h1
   ·exact absurd ⟨by omega,hd⟩ h2
   ·rfl
  ·exact hd
 ·rw[zar7 h];exact .same hg _
theorem zaoz {s:Stake} (hg:GoodS s) (v h f:Int):Kept s (zjr s v h f).1 (zjr s v h f).2.2:=by
 by_cases hs:(zjr s v h f).2.2=0
 ·have hga:=zaox hs
  obtain ⟨_,hv,hf,b1,b2,s1,s2,e,hb⟩:=zam8 hs
  rw[e] at hga ⊢
  refine ⟨hga,fun h=>absurd rfl h,by show _≤s.Bank.Burnt+zgs s v f+sumN v h f s.Waits;omega,fun u h0 h6=>⟨id,?_⟩⟩
  show _≤(s.Validators.Lost.set v (s.Validators.Lost.get v+(zgs s v f+sumN v h f s.Waits))).get u
  rw[zwy _ _ hv ⟨h0,h6⟩]
  split
  ·rename_i huv;rw[huv];omega
  ·exact Int.le_refl _
 ·rw[(zasa hs).1];exact .same hg _
def zmi (r:Ripe):Bool:=decide (1≤r.Id)&&decide (r.Id≤1099511627776)&&decide (0≤r.Due)
def zkd (p:Packet):Bool:=(p.Kind==1)&&(zf1 p==0)
def zag5 (c:zb):Prop:=(c.On&&c.Gone)=false∧0≤c.Height∧c.Height < 1099511627776∧0≤c.Time∧c.Time≤1099511627776∧0≤c.Id∧c.Id≤1099511627776
instance (c:zb):Decidable (zag5 c):=inferInstanceAs (Decidable (_∧_))
def zjs (c:zb):Bool:=decide (zag5 c)&&decide (zdv c.Out)&&zv 1 (-1) c.Set&&c.Ripes.all zmi&&c.Pending.all zkd
structure FitC (R:Nat) (c:zb):Prop where
 set:c.Set.length*16≤R
 pend:c.Pending.length*80≤R
 ripes:c.Ripes.length*16≤R
 said:c.Out.Said.length*16≤R
 due:c.Out.Due.length*8≤R
 ps:∀ p,p∈c.Pending→p.Set.length*16≤R∧p.Done.length*8≤R
theorem FitC.mono {R S:Nat} {c:zb} (h:FitC R c) (hr:R≤S):FitC S c :=
 ⟨Nat.le_trans h.set hr,Nat.le_trans h.pend hr,Nat.le_trans h.ripes hr,Nat.le_trans h.said hr,Nat.le_trans h.due hr,fun p hp=>⟨Nat.le_trans (h.ps p hp).1 hr,Nat.le_trans (h.ps p hp).2 hr⟩⟩
theorem zao0 {l:List Power} (h:l.length*16≤140737488355328):zfs l=some l:=by
 rw[zfs,zf5]
 refine Tr.run_split (fun h0=>?_) (fun _=>?_) (.inr trivial)
 ·rw[Tr.rl,List.length_eq_zero_iff.1 h0]
 ·rw[Tr.rg (by simp only[zp,List.length_nil];omega),Tr.rl]
theorem zao1 {l:List Packet} (h:l.length*80≤140737488355328):zbn l=some l:=by
 rw[zbn,zft]
 refine Tr.run_split (fun h0=>?_) (fun _=>?_) (.inr trivial)
 ·rw[Tr.rl,List.length_eq_zero_iff.1 h0]
 ·rw[Tr.rg (by simp only[zbj,List.length_nil];omega),Tr.rl]
theorem zao2 {l:List Ripe} (h:l.length*16≤140737488355328):zf8 l=some l:=by
 rw[zf8,zg3]
 refine Tr.run_split (fun h0=>?_) (fun _=>?_) (.inr trivial)
 ·rw[Tr.rl,List.length_eq_zero_iff.1 h0]
 ·rw[Tr.rg (by simp only[zfo,List.length_nil];omega),Tr.rl]
theorem zaxp {l:List Packet} (hl:l.length≤9223372036854775807) (hp:∀ p,p∈l→p.Set.length*16≤140737488351232∧p.Done.length*8≤140737488351232) :
  zcq l=some (!l.all zkd):=by
 obtain ⟨r,h1,h2⟩:=zhz (F:=fun s:(List Packet)×Int×Int=>(zar s.1 s.2.1 s.2.2).run) l.length
  (fun i (_:Unit)=>(l,(l.length:Int),(i:Int))) (fun i _=>True) (fun i _ r=>match r with | .inl k=>0≤k∧(l.drop i).all zkd=false | .inr _=>(l.drop i).all zkd=true) (by
   intro t _
   refine ⟨.inr (),?_,?_⟩
   ·simp only[zar];rw[Tr.rf (by simp),Tr.rl]
   ·rw[List.drop_length];rfl) (by
   intro i t hi _
   have hs:=z2 (l:=l) (k:=i) hi default
   have hm:=zbu (l:=l) (k:=i) hi default
   obtain ⟨p1,p2⟩:=hp _ hm
   simp only[zar,yy4]
   rw[Tr.rt (by simpa using hi),Tr.rg ⟨by omega,by rw[zbj];omega⟩,Tr.rb (v := !zkd (l.getD i default)) (by
    rw[zuh,zof,Tr.rb (z53 p1 p2),Tr.rl]
    unfold zkd
    congr 1
    rw[Bool.not_and,Bool.or_comm];rfl),hs]
   simp only[List.all_cons]
   obtain ⟨b,hb⟩:∃ b,b=zkd (l.getD i default):=⟨_,rfl⟩
   rw[← hb]
   cases b with
   | true =>
    refine .inl ⟨(),?_,trivial,?_⟩
    ·rw[Tr.rf (show (!true)=false from rfl),Tr.rl,zl (by omega)]
    ·intro r hr
     cases r with
     | inl x=>exact ⟨hr.1,by rw[hr.2];rfl⟩
     | inr x=>rw[Bool.true_and];exact hr
   | false =>
    refine .inr ⟨.inl i,?_,by omega,by rfl⟩
    rw[Tr.rt (show (!false)=true from rfl),Tr.rl]) 0 () (by omega) trivial
 have h1:zfe l l.length 0=some r:=h1
 rw[zcq,zc8]
 cases r with
 | inl k =>
  simp only[List.drop_zero] at h2
  rw[Tr.rb (v:=k) (by rw[zdn,zb4,Tr.ri h1,Tr.rl]),Tr.rl,h2.2]
  simp[h2.1]
 | inr k =>
  simp only[List.drop_zero] at h2
  rw[Tr.rb (v := -1) (by rw[zdn,zb4,Tr.rj h1,Tr.rl]),Tr.rl,h2]
  rfl
theorem zaxq {c:zb} (hl:c.Set.length≤9223372036854775807) :
  ∃ r,zsu c.Set c.Set.length 0 c=some r∧(match r with | .inl b=>b=false∧zv 1 (-1) c.Set=false | .inr x=>x=c∧zv 1 (-1) c.Set=true):=by
 have:=ziv (F:=fun s:(List Power)×Int×Int×zb=>(zix s.1 s.2.1 s.2.2.1 s.2.2.2).run)
  (fun s=>s.1=c.Set∧s.2.1=c.Set.length∧0≤s.2.2.1∧s.2.2.1≤c.Set.length∧s.2.2.2=c ∧ -1≤zi3 c.Set s.2.2.1∧(0 < s.2.2.1→0≤zi3 c.Set s.2.2.1)) (fun s=>c.Set.length - s.2.2.1.toNat)
  (fun s r=>match r with | .inl b=>b=false∧zv 1 (zi3 c.Set s.2.2.1) (c.Set.drop s.2.2.1.toNat)=false | .inr x=>x=c∧zv 1 (zi3 c.Set s.2.2.1) (c.Set.drop s.2.2.1.toNat)=true) ?_ (c.Set,(c.Set.length:Int),0,c) ⟨rfl,rfl,by simp,by simp,rfl,by simp[zi3],by simp⟩
 ·exact this
 ·rintro ⟨x0,x1,x2,x3⟩ ⟨h1,h2,h3,h4,h5,h6,h7⟩
  simp only at h1 h2 h3 h4 h5 h6 h7
  subst h5
  rw[h1,h2] at *
  simp only[zix]
  by_cases hc:x2 < x3.Set.length
  ·have hs:=z2 (l:=x3.Set) (k:=x2.toNat) (by omega) default
   rw[Tr.rt (by simpa using hc),Tr.rg ⟨h3,hc⟩,Tr.rg (by
    intro h _
    simp only[decide_eq_true_eq] at h
    rw[zf (x:=x2 - 1) (by omega) (by omega)]
    exact ⟨⟨by omega,by simp only[Sl.len];omega⟩,trivial⟩)]
   rw[hs]
   have hp:(decide (x2 > 0)&&decide ((x3.Set.getD (IntKind.i64.wrap (x2 - 1)).toNat default).V≥(x3.Set.getD x2.toNat default).V))=(decide (x2 > 0)&&decide (zi3 x3.Set x2≥(x3.Set.getD x2.toNat default).V)):=by
    by_cases h0:x2 > 0
    ·rw[zf (x:=x2 - 1) (by omega) (by omega)]
     unfold zi3
     rw[if_neg (by omega)]
    ·simp[h0]
   rw[hp]
   generalize hq:x3.Set.getD x2.toNat default=q at *
   by_cases hd:zi3 x3.Set x2 < q.V∧q.V≤5∧1≤q.N∧q.N≤1125899906842624
   ·obtain ⟨d1,d2,d3,d4⟩:=hd
    have hw:IntKind.i64.wrap (x2+1)=x2+1:=zf (by omega) (by omega)
    have hpv:zi3 x3.Set (x2+1)=q.V:=by unfold zi3;rw[if_neg (by omega),show x2+1 - 1=x2 by omega,hq]
    refine .inl ⟨_,by rw[Tr.rf (by simp;omega),Tr.rl,hw],⟨rfl,rfl,?_,?_,rfl,?_,?_⟩,?_,?_⟩
    ·simp only[];omega
    ·simp only[];omega
    ·simp only[];rw[hpv];omega
    ·simp only[];rw[hpv];intro _;omega
    ·simp only[];omega
    ·simp only[]
     rw[hpv,show (x2+1).toNat=x2.toNat+1 by omega]
     intro r hr
     rw[zv,decide_eq_true d1,decide_eq_true d2,decide_eq_true d3,decide_eq_true d4]
     simpa using hr
   ·refine .inr ⟨_,by rw[Tr.rt (by
     by_cases h0:x2 > 0
     ·have:=h7 h0
      simp[h0];omega
     ·have:zi3 x3.Set x2 = -1:=by unfold zi3;rw[if_pos (by omega)]
      simp[h0];omega),Tr.rl],?_⟩
    refine ⟨rfl,?_⟩
    rw[zv]
    simp only[Bool.and_eq_false_iff,yy8]
    omega
  ·refine .inr ⟨_,by rw[Tr.rf (by simpa using hc),Tr.rl],?_⟩
   refine ⟨rfl,?_⟩
   rw[List.drop_eq_nil_of_le (by omega)];rfl
theorem z6c (r:Ripe):(((decide (r.Id < 1))||(decide (r.Id > 1099511627776)))||(decide (r.Due < 0))) = !zmi r:=by
 unfold zmi
 rw[Bool.eq_iff_iff]
 simp only[Bool.or_eq_true,Bool.not_eq_true',Bool.and_eq_false_iff,decide_eq_true_eq,yy8]
 omega
theorem zao3 {l:List Ripe} {c:zb} (hl:l.length≤9223372036854775807) :
  zlu l l.length 0 c=some (if l.all zmi=true then .inr c else .inl false):=by
 rw[zlu]
 refine z9k (F:=fun s:(List Ripe)×Int×Int×zb=>(zdx s.1 s.2.1 s.2.2.1 s.2.2.2).run) l default (fun i=>(l,(l.length:Int),(i:Int),c)) zmi false c ?_ ?_ ?_
 ·simp only[zdx];rw[Tr.rf (by simp),Tr.rl]
 ·intro i hi hp
  simp only[zdx,yy4,z6c]
  rw[Tr.rt (by simpa using hi),Tr.rg ⟨by omega,by rw[zfo];omega⟩,Tr.rf (by rw[hp];rfl),Tr.rl,zl (by omega)]
 ·intro i hi hp
  simp only[zdx,yy4,z6c]
  rw[Tr.rt (by simpa using hi),Tr.rg ⟨by omega,by rw[zfo];omega⟩,Tr.rt (by rw[hp];rfl),Tr.rl]
theorem zasb (c:zb):(((((((c.On&&c.Gone)||(decide (c.Height < 0)))||(decide (c.Height≥1099511627776)))||(decide (c.Time < 0)))||(decide (c.Time > 1099511627776)))||(decide (c.Id < 0)))||(decide (c.Id > 1099511627776))) = !decide (zag5 c):=by
 rw[Bool.eq_iff_iff]
 rw[Bool.not_eq_true',yy8]
 unfold zag5
 generalize (c.On&&c.Gone)=b
 cases b<;>simp only[Bool.or_eq_true,decide_eq_true_eq,reduceCtorEq,true_or,false_or,false_and,true_and,not_false_eq_true,iff_true]<;>omega
theorem zyj {c:zb} (h:FitC 140737488351232 c):ze7 c=some (zjs c):=by
 have e1:=h.set;have e2:=h.pend;have e3:=h.ripes
 rw[ze7,zsv]
 simp only[zasb,z7l,Option.isSome_some,yy2]
 rw[Tr.rg (by simp)]
 unfold zjs
 by_cases h1:zag5 c
 ·by_cases h2:zdv c.Out
  ·rw[Tr.rf (by simp[h1,h2]),decide_eq_true h1,decide_eq_true h2]
   obtain ⟨r,f1,f2⟩:=zaxq (c:=c) (by omega)
   cases r with
   | inl b=>rw[Tr.ri f1,Tr.rl,f2.1,f2.2];rfl
   | inr x =>
    rw[Tr.rj f1,f2.1,f2.2]
    have f3:=zao3 (l:=c.Ripes) (c:=c) (by omega)
    by_cases h4:c.Ripes.all zmi=true
    ·rw[if_pos h4] at f3
     rw[Tr.rj f3,Tr.rb (zaxp (by omega) h.ps),Tr.rl,h4]
     simp
    ·rw[if_neg h4] at f3
     rw[Tr.ri f3,Tr.rl]
     simp[h4]
  ·rw[Tr.rt (by simp[h2]),Tr.rl,decide_eq_false h2]
   simp
 ·rw[Tr.rt (by simp[h1]),Tr.rl,decide_eq_false h1]
  simp
theorem za32 {l:List Power} (hl:l.length≤9223372036854775807):zds l=some (zv 1 (-1) l):=by
 have:∃ r,zth (-1) l l.length 0=some r∧(match r with | .inl b=>b=false∧zv 1 (-1) l=false | .inr _=>zv 1 (-1) l=true):=by
  have:=ziv (F:=fun s:Int×(List Power)×Int×Int=>(zib s.1 s.2.1 s.2.2.1 s.2.2.2).run)
   (fun s=>s.2.1=l∧s.2.2.1=l.length∧0≤s.2.2.2∧s.2.2.2≤l.length) (fun s=>l.length - s.2.2.2.toNat)
   (fun s r=>match r with | .inl b=>b=false∧zv 1 s.1 (l.drop s.2.2.2.toNat)=false | .inr x=>zv 1 s.1 (l.drop s.2.2.2.toNat)=true) ?_ (-1,l,(l.length:Int),0) ⟨rfl,rfl,by simp,by simp⟩
  ·exact this
  ·rintro ⟨x0,x1,x2,x3⟩ ⟨h1,h2,h3,h4⟩
   simp only at h1 h2 h3 h4
   rw[h1,h2] at *
   simp only[zib]
   by_cases hc:x3 < l.length
   ·have hs:=z2 (l:=l) (k:=x3.toNat) (by omega) default
    rw[Tr.rt (by simpa using hc),Tr.rg ⟨h3,hc⟩,hs]
    generalize hq:l.getD x3.toNat default=q at *
    by_cases hd:x0 < q.V∧q.V≤5∧1≤q.N∧q.N≤1125899906842624
    ·obtain ⟨d1,d2,d3,d4⟩:=hd
     have hw:IntKind.i64.wrap (x3+1)=x3+1:=zf (by omega) (by omega)
     refine .inl ⟨_,by rw[Tr.rf (by simp;omega),Tr.rl,hw],⟨rfl,rfl,?_,?_⟩,?_,?_⟩
     ·simp only[];omega
     ·simp only[];omega
     ·simp only[];omega
     ·simp only[]
      rw[show (x3+1).toNat=x3.toNat+1 by omega]
      intro r hr
      rw[zv,decide_eq_true d1,decide_eq_true d2,decide_eq_true d3,decide_eq_true d4]
      simpa using hr
    ·refine .inr ⟨_,by rw[Tr.rt (by simp;omega),Tr.rl],?_⟩
     refine ⟨rfl,?_⟩
     rw[zv]
     simp only[Bool.and_eq_false_iff,yy8]
     omega
   ·refine .inr ⟨_,by rw[Tr.rf (by simpa using hc),Tr.rl],?_⟩
    rw[List.drop_eq_nil_of_le (by omega)];rfl
 obtain ⟨r,h1,h2⟩:=this
 rw[zds,zx8]
 cases r with
 | inl b=>rw[Tr.ri h1,Tr.rl,h2.1,h2.2]
 | inr x=>rw[Tr.rj h1,Tr.rl,h2]
theorem zaxr {l:List Packet} {c:zb} (hl:l.length≤9223372036854775807) (hp:∀ p,p∈l→p.Set.length*16≤140737488351232∧p.Done.length*8≤140737488351232) :
  zih l l.length 0 c=some (if l.all zkd=true then .inr c else .inl false):=by
 rw[zih]
 have test:∀ i,i < l.length→(((l.getD i default).Kind != 1)||(((zaw (l.getD i default)).getD default) != 0)) = !zkd (l.getD i default):=by
  intro i hi
  obtain ⟨p1,p2⟩:=hp _ (zbu (l:=l) (k:=i) hi default)
  rw[zl6 p1 p2,yy2]
  unfold zkd
  rw[Bool.not_and];rfl
 refine z9k (F:=fun s:(List Packet)×Int×Int×zb=>(zcb s.1 s.2.1 s.2.2.1 s.2.2.2).run) l default (fun i=>(l,(l.length:Int),(i:Int),c)) zkd false c ?_ ?_ ?_
 ·simp only[zcb];rw[Tr.rf (by simp),Tr.rl]
 ·intro i hi hq
  obtain ⟨p1,p2⟩:=hp _ (zbu (l:=l) (k:=i) hi default)
  simp only[zcb,yy4]
  rw[Tr.rt (by simpa using hi),Tr.rg ⟨by omega,by rw[zbj];omega⟩,Tr.rg (by rw[zl6 p1 p2];simp),Tr.rf (by rw[test i hi,hq];rfl),Tr.rl,zl (by omega)]
 ·intro i hi hq
  obtain ⟨p1,p2⟩:=hp _ (zbu (l:=l) (k:=i) hi default)
  simp only[zcb,yy4]
  rw[Tr.rt (by simpa using hi),Tr.rg ⟨by omega,by rw[zbj];omega⟩,Tr.rg (by rw[zl6 p1 p2];simp),Tr.rt (by rw[test i hi,hq];rfl),Tr.rl]
theorem zasc {l:List Ripe} {c:zb} (hl:l.length≤9223372036854775807) :
  zii l l.length 0 c=some (if l.all zmi=true then .inr c else .inl false):=by
 rw[zii]
 refine z9k (F:=fun s:(List Ripe)×Int×Int×zb=>(zcc s.1 s.2.1 s.2.2.1 s.2.2.2).run) l default (fun i=>(l,(l.length:Int),(i:Int),c)) zmi false c ?_ ?_ ?_
 ·simp only[zcc];rw[Tr.rf (by simp),Tr.rl]
 ·intro i hi hp
  simp only[zcc,yy4,z6c]
  rw[Tr.rt (by simpa using hi),Tr.rg ⟨by omega,by rw[zfo];omega⟩,Tr.rf (by rw[hp];rfl),Tr.rl,zl (by omega)]
 ·intro i hi hp
  simp only[zcc,yy4,z6c]
  rw[Tr.rt (by simpa using hi),Tr.rg ⟨by omega,by rw[zfo];omega⟩,Tr.rt (by rw[hp];rfl),Tr.rl]
theorem zao4 (c:zb):(((((((!(c.On&&c.Gone))&&(decide (c.Height≥0)))&&(decide (c.Height < 1099511627776)))&&(decide (c.Time≥0)))&&(decide (c.Time≤1099511627776)))&&(decide (c.Id≥0)))&&(decide (c.Id≤1099511627776)))=decide (zag5 c):=by
 rw[Bool.eq_iff_iff]
 rw[decide_eq_true_iff]
 unfold zag5
 generalize (c.On&&c.Gone)=b
 cases b<;>simp only[yy7,Bool.not_false,Bool.not_true,decide_eq_true_eq,reduceCtorEq,false_and,true_and]<;>omega
theorem zpg {c:zb} (h:FitC 140737488351232 c):zdf c=some (zjs c):=by
 have e1:=h.set;have e2:=h.pend;have e3:=h.ripes;have e4:=h.due
 rw[zdf,znj]
 have f1:=zaxr (l:=c.Pending) (c:=c) (by omega) h.ps
 have f2:=zasc (l:=c.Ripes) (c:=c) (by omega)
 unfold zjs
 by_cases h1:c.Pending.all zkd=true
 ·rw[if_pos h1] at f1
  rw[Tr.rj f1]
  by_cases h2:c.Ripes.all zmi=true
  ·rw[if_pos h2] at f2
   rw[Tr.rj f2]
   simp only[zao4,zr6 (l:=c.Out) (by omega),za32 (l:=c.Set) (by omega),Option.isSome_some,yy2]
   rw[Tr.rg (by simp),Tr.rg (by simp),Tr.rl,h1,h2]
   simp
  ·rw[if_neg h2] at f2
   rw[Tr.ri f2,Tr.rl]
   simp[h2]
 ·rw[if_neg h1] at f1
  rw[Tr.ri f1,Tr.rl]
  simp[h1]
theorem zam9 {l:List Power} {v:Int} (hl:l.length≤9223372036854775807):zak l v=some (zcv l v):=by
 obtain ⟨r,h1,h2⟩:=zhz (F:=fun s:Int×(List Power)×Int×Int=>(zev s.1 s.2.1 s.2.2.1 s.2.2.2).run) l.length
  (fun i (_:Unit)=>(v,l,(l.length:Int),(i:Int))) (fun i _=>True) (fun i _ r=>match r with | .inl x=>zcv (l.drop i) v=x | .inr _=>zcv (l.drop i) v=0) (by
   intro t _
   refine ⟨.inr (),?_,?_⟩
   ·simp only[zev];rw[Tr.rf (by simp),Tr.rl]
   ·rw[List.drop_length];rfl) (by
   intro i t hi _
   have hs:=z2 (l:=l) (k:=i) hi default
   simp only[zev,yy4]
   rw[Tr.rt (by simpa using hi),Tr.rg ⟨by omega,by rw[zp];omega⟩,hs]
   by_cases hv:(l.getD i default).V=v
   ·exact .inr ⟨.inl (l.getD i default).N,by rw[Tr.rt (by rw[hv];simp),Tr.rl],by simp only[zcv];rw[if_pos hv]⟩
   ·refine .inl ⟨(),by rw[Tr.rf (by simpa using hv),Tr.rl,zl (by omega)],trivial,?_⟩
    intro r hr
    simp only[zcv]
    rw[if_neg hv]
    exact hr) 0 () (by omega) trivial
 have h1:zq7 v l l.length 0=some r:=h1
 simp only[List.drop_zero] at h2
 rw[zak,zqp]
 cases r with
 | inl x=>rw[Tr.ri h1,Tr.rl,← h2]
 | inr x=>rw[Tr.rj h1,Tr.rl,h2]
theorem zana {c:zb} (h:FitC 140737488351232 c):zhb c=some c:=by
 have e1:=h.set;have e2:=h.pend;have e3:=h.ripes
 have key:∀ z:zb,zig c.Pending c.Pending.length 0 c z []=some (c,z,c.Pending):=by
  intro z
  have:=zb1 (F:=fun s:(List Packet)×Int×Int×zb×zb×(List Packet)=>(zdt s.1 s.2.1 s.2.2.1 s.2.2.2.1 s.2.2.2.2.1 s.2.2.2.2.2).run) c.Pending default
   (fun i t=>(c.Pending,(c.Pending.length:Int),(i:Int),c,z,t)) (fun i t=>t.length=i) (fun t a=>t++[a]) (fun t=>(c,z,t)) (by
    intro t _
    simp only[zdt];rw[Tr.rf (by simp),Tr.rl]) (by
    intro i t hi ht
    obtain ⟨p1,p2⟩:=h.ps _ (zbu (l:=c.Pending) (k:=i) hi default)
    refine ⟨?_,by simp[ht]⟩
    simp only[zdt,yy4]
    rw[Tr.rt (by simpa using hi),Tr.rg ⟨by omega,by rw[zbj];omega⟩,Tr.rb (z1k p1 p2),Tr.rg (by simp only[zbj,yy5];omega),Tr.rl,zl (by omega)]) [] rfl
  rw[z7k,List.nil_append] at this
  rw[zig];exact this
 rw[zhb,znh]
 simp only[zabo h.said h.due,Option.isSome_some,yy2]
 rw[Tr.rg (by rw[zp];omega),Tr.rg (by trivial),Tr.rg (by rw[zfo];omega),Tr.rb (key _),Tr.rl]
theorem zaes {c:zb} (h:FitC 140737488351232 c):zfi c=some c:=by
 have e1:=h.set;have e2:=h.pend;have e3:=h.ripes
 have key:∀ z:zb,zgm c.Pending c.Pending.length 0 c z []=some (c,z,c.Pending):=by
  intro z
  have:=zb1 (F:=fun s:(List Packet)×Int×Int×zb×zb×(List Packet)=>(zcu s.1 s.2.1 s.2.2.1 s.2.2.2.1 s.2.2.2.2.1 s.2.2.2.2.2).run) c.Pending default
   (fun i t=>(c.Pending,(c.Pending.length:Int),(i:Int),c,z,t)) (fun i t=>t.length=i) (fun t a=>t++[a]) (fun t=>(c,z,t)) (by
    intro t _
    simp only[zcu];rw[Tr.rf (by simp),Tr.rl]) (by
    intro i t hi ht
    obtain ⟨p1,p2⟩:=h.ps _ (zbu (l:=c.Pending) (k:=i) hi default)
    refine ⟨?_,by simp[ht]⟩
    simp only[zcu,yy4]
    rw[Tr.rt (by simpa using hi),Tr.rg ⟨by omega,by rw[zbj];omega⟩,Tr.rb (z1k p1 p2),Tr.rg (by simp only[zbj,yy5];omega),Tr.rl,zl (by omega)]) [] rfl
  rw[z7k,List.nil_append] at this
  rw[zgm];exact this
 rw[zfi,zkk]
 simp only[zabo h.said h.due,Option.isSome_some,yy2]
 rw[Tr.rg (by rw[zp];omega),Tr.rg (by trivial),Tr.rg (by rw[zfo];omega),Tr.rb (key _),Tr.rl]
def zwz (l:List Power) (id now:Int):zb:=⟨true,false,0,now,id,l,[],[],⟨false,false,false,false,false,false⟩,⟨[],[],0,false⟩,⟨0,0,0,0⟩⟩
theorem zaxs {l:List Power} {id now:Int} (hl:l.length*16≤140737488355328):zj6 l id now=some (zwz l id now):=by
 rw[zj6,zqo,Tr.rb (zao0 hl),Tr.rl];rfl
theorem zald {l:List Power} {id now:Int} (hl:l.length*16≤140737488355328):zf3 l id now=some (zwz l id now):=by
 rw[zf3,zl2,Tr.rg (by rw[zp];omega),Tr.rl];rfl
def z08 (c:zb) (s:List UInt8):zb×Int :=
 if zjs c=false then (c,2) else if c.On=false then (c,4) else if (zat s).2≠0 then (c,(zat s).2) else if (zat s).1.Kind≠1 then (c,3)
 else ({ c with Pending:=c.Pending++[(zat s).1] },0)
theorem za33 {c:zb} {a:ByteArray} (h:FitC 140737488351232 c) (ha:a.size≤140737488355328):zlh c a=some (z08 c a.data.toList):=by
 have e1:zgd a=some (zat a.data.toList):=zaiv (s:=a.data.toList) (by have:a.data.toList.length=a.size:=rfl;omega)
 have e2:=h.pend
 rw[zlh,zsw,Tr.rb e1,Tr.rb (zyj h)]
 simp only[zao1 (l:=c.Pending) (by omega),Option.isSome_some,yy2]
 unfold z08
 cases hg:zjs c with
 | false=>rw[Tr.rt (by rfl),Tr.rl,if_pos rfl]
 | true =>
  rw[Tr.rf (by rfl),if_neg (by simp)]
  cases ho:c.On with
  | false=>rw[Tr.rt (by rfl),Tr.rl,if_pos rfl]
  | true =>
   rw[Tr.rf (by rfl),if_neg (by simp)]
   by_cases hd:(zat a.data.toList).2=0
   ·rw[Tr.rf (by simpa using hd),if_neg (by simpa using hd)]
    by_cases hk:(zat a.data.toList).1.Kind=1
    ·rw[Tr.rf (by simpa using hk),if_neg (by simpa using hk),Tr.rg (by trivial),Tr.rg (by simp only[zbj,yy5];omega),Tr.rl]
    ·rw[Tr.rt (by simpa using hk),if_pos hk,Tr.rl]
   ·rw[Tr.rt (by simpa using hd),if_pos hd,Tr.rl]
theorem zao5 {c:zb} {a:ByteArray} (h:FitC 140737488351232 c) (ha:a.size≤140737488355328):zhd c a=some (z08 c a.data.toList):=by
 have e1:zdc a=some (zat a.data.toList):=z8m (s:=a.data.toList) (by have:a.data.toList.length=a.size:=rfl;omega)
 have e2:=h.pend
 rw[zhd,znk,Tr.rb (zpg h)]
 unfold z08
 cases hg:zjs c with
 | false=>rw[Tr.rt (by rfl),Tr.rl,if_pos rfl]
 | true =>
  rw[Tr.rf (by rfl),if_neg (by simp)]
  cases ho:c.On with
  | false=>rw[Tr.rt (by rfl),Tr.rl,if_pos rfl]
  | true =>
   rw[Tr.rf (by rfl),if_neg (by simp),Tr.rb e1]
   by_cases hd:(zat a.data.toList).2=0
   ·rw[Tr.rf (by simpa using hd),if_neg (by simpa using hd)]
    by_cases hk:(zat a.data.toList).1.Kind=1
    ·rw[Tr.rf (by simpa using hk),if_neg (by simpa using hk),Tr.rb (zaes h),Tr.rg (by simp only[zbj,yy5];omega),Tr.rl];simp only[ho]
    ·rw[Tr.rt (by simpa using hk),if_pos hk,Tr.rl]
   ·rw[Tr.rt (by simpa using hd),if_pos hd,Tr.rl]
def zty (p:Packet) (now:Int) (c:zb):Int×zb :=
 if (zd6 p).2≠0 then ((zd6 p).2,c)
 else if (z83 c.Out (zd6 p).1 (IntKind.i64.wrap (now+40))).2≠0 then ((z83 c.Out (zd6 p).1 (IntKind.i64.wrap (now+40))).2,c)
 else (0,{ c with Out:=(z83 c.Out (zd6 p).1 (IntKind.i64.wrap (now+40))).1 })
theorem z9r {p:Packet} {now:Int} {c:zb} (h:(zty p now c).1≠0):(zty p now c).2=c:=by
 unfold zty at h ⊢
 split
 ·rfl
 ·split
  ·rfl
  ·rename_i h1 h2
   rw[if_neg h1,if_neg h2] at h
   exact absurd rfl h
theorem zaxt {R:Nat} (hR:6416≤R) {l:zcl} {s:ByteArray} {u:Int} (h1:l.Said.length*16≤R) (h2:l.Due.length*8≤R):(z83 l s u).1.Said.length*16≤R∧(z83 l s u).1.Due.length*8≤R:=by
 unfold z83
 split
 ·exact ⟨h1,h2⟩
 ·rename_i h0
  split
  ·exact ⟨h1,h2⟩
  ·split
   ·exact ⟨h1,h2⟩
   ·have hg:zdv l:=by
     refine Classical.byContradiction fun hn=>h0 (.inl hn)
    have e:=hg.1
    simp only[yy6,yy5]
    omega
theorem zaxu {R:Nat} (hR:6416≤R) {p:Packet} {now:Int} {c:zb} (h:FitC R c):FitC R (zty p now c).2:=by
 unfold zty
 split
 ·exact h
 ·split
  ·exact h
  ·obtain ⟨k1,k2⟩:=zaxt hR (s:=(zd6 p).1) (u:=IntKind.i64.wrap (now+40)) h.said h.due
   exact ⟨h.set,h.pend,h.ripes,k1,k2,h.ps⟩
theorem z7s {p:Packet} {now:Int} {c:zb}:(zty p now c).2.Ripes=c.Ripes:=by
 unfold zty
 repeat' split
 all_goals rfl
theorem zanb {p:Packet} {now:Int} {c:zb} (h1:p.Set.length*16≤140737488351232) (h2:p.Done.length*8≤140737488351232):zb0 p now c=some (zty p now c):=by
 rw[zb0,zvh,Tr.rb (zabr h1 h2)]
 unfold zty
 by_cases he:(zd6 p).2=0
 ·rw[if_neg (by simpa using he),Tr.rf (by simpa using he),Tr.rb (za0k _ _ _)]
  by_cases hs:(z83 c.Out (zd6 p).1 (IntKind.i64.wrap (now+40))).2=0
  ·rw[if_neg (by simpa using hs),Tr.rf (by simpa using hs),Tr.rl]
  ·rw[if_pos hs,Tr.rt (by simpa using hs),Tr.rl]
 ·rw[if_pos he,Tr.rt (by simpa using he),Tr.rl]
theorem z6d {p:Packet} {now:Int} {c:zb} (h:FitC 140737488351232 c) (h1:p.Set.length*16≤140737488351232) (h2:p.Done.length*8≤140737488351232) :
  zaa c p now=some ((zty p now c).2,(zty p now c).1):=by
 have hd:=h.due
 rw[zaa,z0q,Tr.rb (z01 h1 h2)]
 unfold zty
 by_cases he:(zd6 p).2=0
 ·rw[if_neg (by simpa using he),Tr.rf (by simpa using he),Tr.rb (zair _ _ (by omega))]
  by_cases hs:(z83 c.Out (zd6 p).1 (IntKind.i64.wrap (now+40))).2=0
  ·rw[if_neg (by simpa using hs),Tr.rf (by simpa using hs),Tr.rb (zana h),Tr.rl]
  ·rw[if_pos hs,Tr.rt (by simpa using hs),Tr.rl]
 ·rw[if_pos he,Tr.rt (by simpa using he),Tr.rl]
def clrC (c:zb) (v:Int):zb:={ c with Flags:=c.Flags.set v false }
def zaet (c:zb) (l:List Int):zb:=l.foldl clrC c
theorem z6e:∀ (l:List Int) (c:zb),zaet c l={ c with Flags:=l.foldl (fun f v=>f.set v false) c.Flags }
 | [],c=>rfl
 | v::l,c=>by unfold zaet;rw[List.foldl_cons];exact (z6e l (clrC c v)).trans rfl
def zq1 (now:Int) (c:zb) (p:Packet):zb :=
 { zaet { c with Set:=z0z c.Set p.Set,Id:=p.Id } p.Done with Ripes:=(zaet { c with Set:=z0z c.Set p.Set,Id:=p.Id } p.Done).Ripes++[⟨p.Id,IntKind.i64.wrap (now+15)⟩] }
theorem zyk (now:Int) (c:zb) (p:Packet) :
  zq1 now c p={ c with Set:=z0z c.Set p.Set,Id:=p.Id,Flags:=p.Done.foldl (fun f v=>f.set v false) c.Flags,Ripes:=c.Ripes++[⟨p.Id,IntKind.i64.wrap (now+15)⟩] }:=by
 unfold zq1;rw[z6e]
def zp9 (now:Int):List Ripe→zb→zb
 | [],c=>c
 | r::rs,c=>if r.Due≤now then (if (zty ⟨2,r.Id,0,0,[],[]⟩ now c).1≠0 then c else zp9 now rs { (zty ⟨2,r.Id,0,0,[],[]⟩ now c).2 with Ripes:=rs }) else c
def z9s (now:Int) (c:zb):zb×Int :=
 if zjs c=false then (c,2) else if c.On=false then (c,4) else if now < c.Time∨1099511627776 < now then (c,2)
 else (zp9 now (c.Pending.foldl (zq1 now) { c with Height:=IntKind.i64.wrap (c.Height+1),Time:=now }).Ripes { c.Pending.foldl (zq1 now) { c with Height:=IntKind.i64.wrap (c.Height+1),Time:=now } with Pending:=[] },0)
theorem zbc0 {now x2 x3:Int} {x1:List Packet} {l:List Int} {c z:zb} {p:Packet} (hl:l.length≤9223372036854775807) (hv:∀ v,v∈l→0≤v∧v≤5) :
  zm9 now x1 x2 x3 l l.length 0 c z p=some (now,x1,x2,x3,zaet c l,z,p):=by
 rw[zm9]
 refine zb1 (F:=fun s:Int×(List Packet)×Int×Int×(List Int)×Int×Int×zb×zb×Packet=>(zgh s.1 s.2.1 s.2.2.1 s.2.2.2.1 s.2.2.2.2.1 s.2.2.2.2.2.1 s.2.2.2.2.2.2.1 s.2.2.2.2.2.2.2.1 s.2.2.2.2.2.2.2.2.1 s.2.2.2.2.2.2.2.2.2).run) l 0
  (fun i t=>(now,x1,x2,x3,l,(l.length:Int),(i:Int),t,z,p)) (fun _ _=>True) clrC (fun t=>(now,x1,x2,x3,t,z,p)) ?_ ?_ c trivial
 ·intro t _
  simp only[zgh];rw[Tr.rf (by simp),Tr.rl]
 ·intro i t hi _
  have hm:=hv _ (zbu (l:=l) (k:=i) hi 0)
  refine ⟨?_,trivial⟩
  simp only[zgh,yy4]
  rw[Tr.rt (by simpa using hi),Tr.rg ⟨by omega,by rw[zey];omega⟩,Tr.rg (by omega),Tr.rl,zl (by omega)]
  rfl
theorem zao6 {now x2 x3:Int} {x1:List Packet} {l:List Int} {c z:zb} {p:Packet} (hl:l.length≤9223372036854775807) (hv:∀ v,v∈l→0≤v∧v≤5) :
  zjg now x1 x2 x3 l l.length 0 z c p=some (now,x1,x2,x3,z,zaet c l,p):=by
 rw[zjg]
 refine zb1 (F:=fun s:Int×(List Packet)×Int×Int×(List Int)×Int×Int×zb×zb×Packet=>(zea s.1 s.2.1 s.2.2.1 s.2.2.2.1 s.2.2.2.2.1 s.2.2.2.2.2.1 s.2.2.2.2.2.2.1 s.2.2.2.2.2.2.2.1 s.2.2.2.2.2.2.2.2.1 s.2.2.2.2.2.2.2.2.2).run) l 0
  (fun i t=>(now,x1,x2,x3,l,(l.length:Int),(i:Int),z,t,p)) (fun _ _=>True) clrC (fun t=>(now,x1,x2,x3,z,t,p)) ?_ ?_ c trivial
 ·intro t _
  simp only[zea];rw[Tr.rf (by simp),Tr.rl]
 ·intro i t hi _
  have hm:=hv _ (zbu (l:=l) (k:=i) hi 0)
  refine ⟨?_,trivial⟩
  simp only[zea,yy4]
  rw[Tr.rt (by simpa using hi),Tr.rg ⟨by omega,by rw[zey];omega⟩,Tr.rg (by omega),Tr.rl,zl (by omega)]
  rfl
theorem z6f {l:List Packet} (h:l.all zkd=true):∀ p,p∈l→zf1 p=0∧p.Kind=1∧(∀ v,v∈p.Done→0≤v∧v≤5):=by
 intro p hp
 have h1:=List.all_eq_true.1 h p hp
 unfold zkd at h1
 simp only[yy7,beq_iff_eq] at h1
 obtain ⟨g1,g2,g3,g4,g5,g6,g7,g8,g9,g10,_,_⟩:=zoz h1.2
 exact ⟨h1.2,h1.1,zwq g10 (by omega)⟩
theorem zbc1 {now:Int} {l:List Packet} {c z:zb} (hl:l.length≤9223372036854775807) (hg:l.all zkd=true) (hs:c.Set.length≤9223372036854775807)
  (hp:∀ p,p∈l→p.Set.length*16≤140737488351232∧p.Done.length*8≤140737488351232) (hr:(c.Ripes.length+l.length)*16≤140737488355328) :
  zna now l l.length 0 c z=some (now,l.foldl (zq1 now) c,z):=by
 rw[zna]
 refine zb1 (F:=fun s:Int×(List Packet)×Int×Int×zb×zb=>(zgi s.1 s.2.1 s.2.2.1 s.2.2.2.1 s.2.2.2.2.1 s.2.2.2.2.2).run) l default
  (fun i t=>(now,l,(l.length:Int),(i:Int),t,z)) (fun i t=>t.Ripes.length=c.Ripes.length+i∧t.Set.length≤9223372036854775807) (zq1 now) (fun t=>(now,t,z)) ?_ ?_ c ⟨rfl,hs⟩
 ·intro t _
  simp only[zgi];rw[Tr.rf (by simp),Tr.rl]
 ·intro i t hi ht
  obtain ⟨t1,t2⟩:=ht
  have hm:=zbu (l:=l) (k:=i) hi default
  obtain ⟨p1,p2⟩:=hp _ hm
  obtain ⟨q1,q2,q3⟩:=z6f hg _ hm
  have hset:=z00 (fun v=>z0x (l.getD i default).Set v (zcv t.Set v))
  refine ⟨?_,by rw[zyk];simp only[yy6,yy5];omega,by rw[zyk];unfold z0z;simp only[];omega⟩
  simp only[zgi,yy4]
  rw[Tr.rt (by simpa using hi),Tr.rg ⟨by omega,by rw[zbj];omega⟩,Tr.rb (zaww t2 (by omega)),Tr.rb (zbc0 (by omega) q3)]
  simp only[]
  rw[Tr.rg (by simp only[zfo,yy5,z6e];omega),Tr.rl,zl (by omega)]
  rfl
theorem zao7 {now:Int} {l:List Packet} {c z:zb} (hl:l.length≤9223372036854775807) (hg:l.all zkd=true) (hs:c.Set.length≤9223372036854775807)
  (hp:∀ p,p∈l→p.Set.length*16≤140737488351232∧p.Done.length*8≤140737488351232) (hr:(c.Ripes.length+l.length)*16≤140737488355328) :
  zjh now l l.length 0 z c=some (now,z,l.foldl (zq1 now) c):=by
 rw[zjh]
 refine zb1 (F:=fun s:Int×(List Packet)×Int×Int×zb×zb=>(zeb s.1 s.2.1 s.2.2.1 s.2.2.2.1 s.2.2.2.2.1 s.2.2.2.2.2).run) l default
  (fun i t=>(now,l,(l.length:Int),(i:Int),z,t)) (fun i t=>t.Ripes.length=c.Ripes.length+i∧t.Set.length≤9223372036854775807) (zq1 now) (fun t=>(now,z,t)) ?_ ?_ c ⟨rfl,hs⟩
 ·intro t _
  simp only[zeb];rw[Tr.rf (by simp),Tr.rl]
 ·intro i t hi ht
  obtain ⟨t1,t2⟩:=ht
  have hm:=zbu (l:=l) (k:=i) hi default
  obtain ⟨p1,p2⟩:=hp _ hm
  obtain ⟨q1,q2,q3⟩:=z6f hg _ hm
  have hset:=z00 (fun v=>z0x (l.getD i default).Set v (zcv t.Set v))
  refine ⟨?_,by rw[zyk];simp only[yy6,yy5];omega,by rw[zyk];unfold z0z;simp only[];omega⟩
  simp only[zeb,yy4,zak0 (a:=t.Set) (d:=(l.getD i default).Set) t2 (by omega),Option.isSome_some,yy2]
  rw[Tr.rt (by simpa using hi),Tr.rg ⟨by omega,by rw[zbj];omega⟩,Tr.rg (by trivial),Tr.rb (zao6 (by omega) q3)]
  simp only[]
  rw[Tr.rg (by simp only[zfo,yy5,z6e];omega),Tr.rl,zl (by omega)]
  rfl
theorem za0q {now:Int} {z:zb}:∀ (rs:List Ripe) (c:zb),c.Ripes=rs→zcr now c z=some (zp9 now rs c,z)
 | [],c,h=>by
  rw[zcr]
  refine zbo ?_
  simp only[zeo,h]
  rw[Tr.rg (by simp),Tr.rf (by simp),Tr.rl]
  rfl
 | r::rs,c,h=>by
  have hlen:(Sl.len (.ripes (r::rs)))=rs.length+1:=rfl
  unfold zp9
  by_cases hd:r.Due≤now
  ·rw[if_pos hd]
   by_cases hs:(zty ⟨2,r.Id,0,0,[],[]⟩ now c).1=0
   ·rw[if_neg (by simpa using hs),← za0q rs { (zty ⟨2,r.Id,0,0,[],[]⟩ now c).2 with Ripes:=rs } rfl,zcr,zcr]
    refine za1 ?_
    simp only[zeo,h,List.getD_cons_zero,hlen,z7s]
    rw[Tr.rg (by intro _;exact ⟨⟨by omega,by omega⟩,trivial⟩),Tr.rt (by simp[hd]),Tr.rg (by omega),Tr.rb (zanb (by simp) (by simp)),Tr.rf (by simpa using hs)]
    simp only[z7s,h,hlen]
    rw[Tr.rg (by omega),Tr.rl]
    simp only[List.drop_succ_cons,List.drop_zero,yy4,Nat.add_sub_cancel,List.take_length]
   ·rw[if_pos hs,zcr]
    refine zbo ?_
    simp only[zeo,h,List.getD_cons_zero,hlen]
    rw[Tr.rg (by intro _;exact ⟨⟨by omega,by omega⟩,trivial⟩),Tr.rt (by simp[hd]),Tr.rg (by omega),Tr.rb (zanb (by simp) (by simp)),Tr.rt (by simpa using hs),Tr.rl,z9r hs]
  ·rw[if_neg hd,zcr]
   refine zbo ?_
   simp only[zeo,h,List.getD_cons_zero,hlen]
   rw[Tr.rg (by intro _;exact ⟨⟨by omega,by omega⟩,trivial⟩),Tr.rf (by simp[hd]),Tr.rl]
theorem zaeu {now:Int} {z:zb}:∀ (rs:List Ripe) (c:zb),c.Ripes=rs→FitC 140737488351232 c →
  ∃ r,zbg now z c=some r∧(match r with | .inl y=>y=(0,zp9 now rs c) | .inr y=>y.2=zp9 now rs c)
 | [],c,h,hf=>by
  refine ⟨.inr (z,c),?_,rfl⟩
  rw[zbg]
  refine zbo ?_
  simp only[zc3,h]
  rw[Tr.rg (by simp),Tr.rf (by simp),Tr.rl]
 | r::rs,c,h,hf=>by
  have hlen:(Sl.len (.ripes (r::rs)))=rs.length+1:=rfl
  have hsay:=z6d (p:=⟨2,r.Id,0,0,[],[]⟩) (now:=now) hf (by simp) (by simp)
  unfold zp9
  by_cases hd:r.Due≤now
  ·rw[if_pos hd]
   by_cases hs:(zty ⟨2,r.Id,0,0,[],[]⟩ now c).1=0
   ·rw[if_neg (by simpa using hs)]
    have hfit:=zaxu (by omega) (p:=⟨2,r.Id,0,0,[],[]⟩) (now:=now) hf
    have hr:=hf.ripes
    rw[h] at hr
    simp only[List.length_cons] at hr
    obtain ⟨y,k1,k2⟩:=zaeu (now:=now) (z:=z) rs { (zty ⟨2,r.Id,0,0,[],[]⟩ now c).2 with Ripes:=rs } rfl ⟨hfit.set,hfit.pend,by simp only[];omega,hfit.said,hfit.due,hfit.ps⟩
    refine ⟨y,?_,k2⟩
    rw[← k1,zbg,zbg]
    refine za1 ?_
    simp only[zc3,h,List.getD_cons_zero,hlen,hsay,Option.isSome_some,yy2,z7s]
    rw[Tr.rg (by intro _;exact ⟨⟨by omega,by omega⟩,trivial⟩),Tr.rt (by simp[hd]),Tr.rg (by omega),Tr.rg (by trivial),Tr.rf (by simpa using hs),Tr.rg (by omega),Tr.rl]
    simp only[List.drop_succ_cons,List.drop_zero,yy4,Nat.add_sub_cancel,List.take_length]
   ·rw[if_pos hs]
    refine ⟨.inl (0,c),?_,rfl⟩
    rw[zbg]
    refine zbo ?_
    simp only[zc3,h,List.getD_cons_zero,hlen,hsay,Option.isSome_some,yy2]
    rw[Tr.rg (by intro _;exact ⟨⟨by omega,by omega⟩,trivial⟩),Tr.rt (by simp[hd]),Tr.rg (by omega),Tr.rg (by trivial),Tr.rt (by simpa using hs),Tr.rl]
  ·rw[if_neg hd]
   refine ⟨.inr (z,c),?_,rfl⟩
   rw[zbg]
   refine zbo ?_
   simp only[zc3,h,List.getD_cons_zero,hlen]
   rw[Tr.rg (by intro _;exact ⟨⟨by omega,by omega⟩,trivial⟩),Tr.rf (by simp[hd]),Tr.rl]
theorem zcy {c:zb} (h:zjs c=true):zag5 c∧zdv c.Out∧zv 1 (-1) c.Set=true∧c.Ripes.all zmi=true∧c.Pending.all zkd=true:=by
 unfold zjs at h
 simp only[yy7,decide_eq_true_eq] at h
 exact ⟨h.1.1.1.1,h.1.1.1.2,h.1.1.2,h.1.2,h.2⟩
theorem zbc2 {now:Int} {c:zb} (h:FitC 140737488351232 c) (hr:(c.Ripes.length+c.Pending.length)*16≤140737488355328):z6 c now=some (z9s now c):=by
 have e1:=h.set;have e2:=h.pend;have e3:=h.ripes
 rw[z6,zvi,Tr.rb (zyj h)]
 unfold z9s
 cases hg:zjs c with
 | false=>rw[Tr.rt (by rfl),Tr.rl,if_pos rfl]
 | true =>
  obtain ⟨_,_,_,_,hp⟩:=zcy hg
  rw[Tr.rf (by rfl),if_neg (by simp)]
  cases ho:c.On with
  | false=>rw[Tr.rt (by rfl),Tr.rl,if_pos rfl]
  | true =>
   rw[Tr.rf (by rfl),if_neg (by simp)]
   by_cases ht:now < c.Time∨1099511627776 < now
   ·rw[if_pos ht,Tr.rt (by simpa using ht),Tr.rl]
   ·rw[if_neg ht,Tr.rf (by simp;omega),Tr.rb (zao2 (by omega))]
    rw[Tr.rb (zbc1 (by omega) hp (by simp only[];omega) h.ps (by simp only[];omega))]
    simp only[]
    rw[Tr.rb (za0q _ _ rfl),Tr.rl] <;> first | rw[ho] | rfl
theorem zao8 (a d:List Power):(z0z a d).length≤6:=z00 _
theorem zaxv {now:Int} {l:List Packet}:∀ {c:zb},l≠[]→(l.foldl (zq1 now) c).Set.length≤6:=by
 induction l with
 | nil=>intro c h;exact absurd rfl h
 | cons p l ih =>
  intro c _
  rw[List.foldl_cons]
  cases l with
  | nil =>
   rw[List.foldl_nil,zyk]
   show (z0z c.Set p.Set).length≤6
   exact zao8 _ _
  | cons q l=>exact ih (c:=zq1 now c p) (by simp)
theorem zvy {now:Int}:∀ (l:List Packet) (c:zb),(l.foldl (zq1 now) c).Ripes.length=c.Ripes.length+l.length∧(l.foldl (zq1 now) c).Out=c.Out∧(l.foldl (zq1 now) c).On=c.On∧(l.foldl (zq1 now) c).Gone=c.Gone∧(l.foldl (zq1 now) c).Height=c.Height∧(l.foldl (zq1 now) c).Time=c.Time
 | [],c=>⟨rfl,rfl,rfl,rfl,rfl,rfl⟩
 | p::l,c=>by
  rw[List.foldl_cons]
  obtain ⟨h1,h2,h3,h4,h5,h6⟩:=zvy l (zq1 now c p)
  rw[zyk] at h1 h2 h3 h4 h5 h6 ⊢
  refine ⟨?_,h2,h3,h4,h5,h6⟩
  rw[h1]
  show (c.Ripes++[(⟨p.Id,IntKind.i64.wrap (now+15)⟩:Ripe)]).length+l.length=_
  rw[yy6,yy5,List.length_cons]
  omega
theorem zai8 {now:Int} {c:zb} {R:Nat} (hR:6416≤R) {l:List Packet} (h:FitC R c) (hr:(c.Ripes.length+l.length)*16≤R):FitC R { l.foldl (zq1 now) c with Pending:=[] }:=by
 obtain ⟨h1,h2,_⟩:=zvy (now:=now) l c
 refine ⟨?_,by simp,?_,?_,?_,fun p hp=>by cases hp⟩
 ·by_cases hl:l=[]
  ·subst hl;exact h.set
  ·have:=zaxv (now:=now) (c:=c) hl
   simp only[];omega
 ·simp only[h1];omega
 ·simp only[h2];exact h.said
 ·simp only[h2];exact h.due
theorem zasd {now:Int} {c:zb} (h:FitC 140737488351232 c) (hr:(c.Ripes.length+c.Pending.length)*16≤140737488351232):zac c now=some (z9s now c):=by
 have e1:=h.set;have e2:=h.pend;have e3:=h.ripes
 rw[zac,zor,Tr.rb (zpg h)]
 unfold z9s
 cases hg:zjs c with
 | false=>rw[Tr.rt (by rfl),Tr.rl,if_pos rfl]
 | true =>
  obtain ⟨_,_,_,_,hp⟩:=zcy hg
  rw[Tr.rf (by rfl),if_neg (by simp)]
  cases ho:c.On with
  | false=>rw[Tr.rt (by rfl),Tr.rl,if_pos rfl]
  | true =>
   rw[Tr.rf (by rfl),if_neg (by simp)]
   by_cases ht:now < c.Time∨1099511627776 < now
   ·rw[if_pos ht,Tr.rt (by simpa using ht),Tr.rl]
   ·rw[if_neg ht,Tr.rf (by simp;omega),Tr.rb (zaes h)]
    rw[Tr.rb (zao7 (by omega) hp (by simp only[];omega) h.ps (by simp only[];omega))]
    simp only[]
    have hf:FitC 140737488351232 { c with Height:=IntKind.i64.wrap (c.Height+1),Time:=now }:=⟨h.set,h.pend,h.ripes,h.said,h.due,h.ps⟩
    obtain ⟨r,k1,k2⟩:=zaeu (now:=now) (z:=⟨false,false,0,0,0,[],[],[],⟨false,false,false,false,false,false⟩,⟨[],[],0,false⟩,⟨0,0,0,0⟩⟩) _ _ rfl (zai8 (now:=now) (by omega) hf (l:=c.Pending) hr)
    cases r with
    | inl y =>
     refine (Tr.ri k1).trans ?_
     rw[Tr.rl,k2]<;>first | rw[ho] | rfl
    | inr y =>
     refine (Tr.rj k1).trans ?_
     rw[Tr.rl,k2]<;>first | rw[ho] | rfl
theorem zaev:∀ {l:List Power} {p v:Int},zv 1 p l=true→zcv l v=0∨1≤zcv l v
 | [],_,_,_=>.inl rfl
 | a::l,p,v,h=>by
  rw[zv] at h
  simp only[yy7,decide_eq_true_eq] at h
  unfold zcv
  split
  ·exact .inr h.1.1.2
  ·exact zaev h.2
theorem zanc {l:List Power} {v:Int} (h:0≤v∧v < 6):(rowA l).get v=zcv l v:=by
 obtain rfl | rfl | rfl | rfl | rfl | rfl:v=0∨v=1∨v=2∨v=3∨v=4∨v=5:=by omega
 all_goals rfl
def z4f (c:zb) (v now:Int):zb×Int :=
 if zjs c=false∨now < 0∨1099511627776 < now then (c,2) else if c.On=false∨v < 0∨5 < v∨zcv c.Set v=0 then (c,4) else if c.Flags.get v=true then (c,5)
 else if (zty ⟨3,c.Id,v,zcv c.Set v,[],[]⟩ now c).1≠0 then (c,(zty ⟨3,c.Id,v,zcv c.Set v,[],[]⟩ now c).1)
 else ({ (zty ⟨3,c.Id,v,zcv c.Set v,[],[]⟩ now c).2 with Flags:=(zty ⟨3,c.Id,v,zcv c.Set v,[],[]⟩ now c).2.Flags.set v true },0)
theorem za34 {c:zb} {v now:Int} (h:FitC 140737488351232 c):ze8 c v now=some (z4f c v now):=by
 have e1:=h.set
 have hsay:=fun n=>zanb (p:=⟨3,c.Id,v,n,[],[]⟩) (now:=now) (c:=c) (by simp) (by simp)
 rw[ze8,zsy,Tr.rb (zyj h)]
 simp only[zam9 (l:=c.Set) (v:=v) (by omega),hsay,Option.isSome_some,yy2]
 unfold z4f
 by_cases h1:zjs c=false∨now < 0∨1099511627776 < now
 ·rw[if_pos h1,Tr.rt (by simpa[or_assoc] using h1),Tr.rl]
 ·rw[if_neg h1,Tr.rf (by rw[Bool.eq_false_iff];intro k;apply h1;simpa[or_assoc] using k),Tr.rg (by simp)]
  by_cases h2:c.On=false∨v < 0∨5 < v∨zcv c.Set v=0
  ·rw[if_pos h2,Tr.rt (by
    simp only[Bool.or_eq_true,Bool.not_eq_true',decide_eq_true_eq,beq_iff_eq]
    rcases h2 with h2 | h2 | h2 | h2
    ·exact .inl (.inl (.inl h2))
    ·exact .inl (.inl (.inr h2))
    ·exact .inl (.inr (by omega))
    ·exact .inr h2),Tr.rl]
  ·simp only[not_or] at h2
   rw[if_neg (by simp only[not_or];exact h2),Tr.rf (by
    simp only[Bool.or_eq_false_iff,Bool.not_eq_false',yy8,beq_eq_false_iff_ne]
    exact ⟨⟨⟨by simpa using h2.1,h2.2.1⟩,by omega⟩,h2.2.2.2⟩),Tr.rg (by omega)]
   by_cases h3:c.Flags.get v=true
   ·rw[if_pos h3,Tr.rt h3,Tr.rl]
   ·rw[if_neg h3,Tr.rf (by simpa using h3),Tr.rg (by trivial),Tr.rg (by trivial)]
    by_cases h4:(zty ⟨3,c.Id,v,zcv c.Set v,[],[]⟩ now c).1=0
    ·rw[if_neg (by simpa using h4),Tr.rf (by simpa using h4),Tr.rg (by omega),Tr.rl]
    ·rw[if_pos h4,Tr.rt (by simpa using h4),Tr.rl,z9r h4]
theorem zao9 {c:zb} {v now:Int} (h:FitC 140737488351232 c):zj8 c v now=some (z4f c v now):=by
 have e1:=h.set
 have hsay:=fun n=>z6d (p:=⟨3,c.Id,v,n,[],[]⟩) (now:=now) (c:=c) h (by simp) (by simp)
 rw[zj8,z0r,Tr.rb (zpg h)]
 simp only[zaio (a:=c.Set) (by omega),hsay,Option.isSome_some,yy2]
 unfold z4f
 by_cases h1:zjs c=false∨now < 0∨1099511627776 < now
 ·rw[if_pos h1,Tr.rt (by simpa[or_assoc] using h1),Tr.rl]
 ·rw[if_neg h1,Tr.rf (by rw[Bool.eq_false_iff];intro k;apply h1;simpa[or_assoc] using k),Tr.rg (by simp),Tr.rg (by
   intro k
   simp only[Bool.or_eq_false_iff,yy8] at k
   exact ⟨by omega,trivial⟩)]
  by_cases hv:0≤v∧v < 6
  ·rw[zanc hv]
   by_cases h2:c.On=false∨v < 0∨5 < v∨zcv c.Set v=0
   ·rw[if_pos h2,Tr.rt (by
     simp only[Bool.or_eq_true,Bool.not_eq_true',decide_eq_true_eq,beq_iff_eq]
     rcases h2 with h2 | h2 | h2 | h2
     ·exact .inl (.inl (.inl h2))
     ·exact .inl (.inl (.inr h2))
     ·exact .inl (.inr (by omega))
     ·exact .inr h2),Tr.rl]
   ·simp only[not_or] at h2
    rw[if_neg (by simp only[not_or];exact h2),Tr.rf (by
     simp only[Bool.or_eq_false_iff,Bool.not_eq_false',yy8,beq_eq_false_iff_ne]
     exact ⟨⟨⟨by simpa using h2.1,h2.2.1⟩,by omega⟩,h2.2.2.2⟩),Tr.rg (by omega)]
    by_cases h3:c.Flags.get v=true
    ·rw[if_pos h3,Tr.rt h3,Tr.rl]
    ·rw[if_neg h3,Tr.rf (by simpa using h3),Tr.rg (by trivial),Tr.rg (by omega),Tr.rg (by trivial)]
     by_cases h4:(zty ⟨3,c.Id,v,zcv c.Set v,[],[]⟩ now c).1=0
     ·rw[if_neg (by simpa using h4),Tr.rt (by simpa using h4),Tr.rg (by omega),Tr.rl,h4]
     ·rw[if_pos h4,Tr.rf (by simpa using h4),Tr.rl,z9r h4]
  ·rw[if_pos (.inr (by omega)),Tr.rt (by
    simp only[Bool.or_eq_true,Bool.not_eq_true',decide_eq_true_eq,beq_iff_eq]
    by_cases h5:v < 0
    ·exact .inl (.inl (.inr h5))
    ·exact .inl (.inr (by omega))),Tr.rl]
def maxC (c:zb) (v:Int):Int:=if zcv c.Set v=0 then 1 else zcv c.Set v
def zo2 (c:zb) (v id now:Int):zb×Int :=
 if zjs c=false∨now < 0∨1099511627776 < now then (c,2) else if c.On=false∨v < 0∨5 < v then (c,4) else if id < 1∨c.Id < id then (c,2)
 else ((zty ⟨4,id,v,maxC c v,[],[]⟩ now c).2,(zty ⟨4,id,v,maxC c v,[],[]⟩ now c).1)
theorem zase {c:zb} {v id now:Int} (h:FitC 140737488351232 c):zdy c v id now=some (zo2 c v id now):=by
 have e1:=h.set
 rw[zdy,zog,Tr.rb (zyj h)]
 unfold zo2
 by_cases h1:zjs c=false∨now < 0∨1099511627776 < now
 ·rw[if_pos h1,Tr.rt (by simpa[or_assoc] using h1),Tr.rl]
 ·rw[if_neg h1,Tr.rf (by rw[Bool.eq_false_iff];intro k;apply h1;simpa[or_assoc] using k)]
  by_cases h2:c.On=false∨v < 0∨5 < v
  ·rw[if_pos h2,Tr.rt (by
    simp only[Bool.or_eq_true,Bool.not_eq_true',decide_eq_true_eq]
    rcases h2 with h2 | h2 | h2
    ·exact .inl (.inl h2)
    ·exact .inl (.inr h2)
    ·exact .inr (by omega)),Tr.rl]
  ·simp only[not_or] at h2
   rw[if_neg (by simp only[not_or];exact h2),Tr.rf (by
    simp only[Bool.or_eq_false_iff,Bool.not_eq_false',yy8]
    exact ⟨⟨by simpa using h2.1,h2.2.1⟩,by omega⟩)]
   by_cases h3:id < 1∨c.Id < id
   ·rw[if_pos h3,Tr.rt (by simpa using h3),Tr.rl]
   ·have hg:zjs c=true:=by simp only[not_or] at h1;simpa using h1.1
    have hf:=zaev (v:=v) (zcy hg).2.2.1
    have hm:(if zcv c.Set v > 1 then zcv c.Set v else 1)=maxC c v:=by
     unfold maxC
     rcases hf with hf | hf
     ·rw[if_neg (by omega),if_pos hf]
     ·rw[if_neg (show ¬ zcv c.Set v=0 by omega)]
      split<;>omega
    rw[if_neg h3,Tr.rf (by simp;omega),Tr.rb (zam9 (by omega)),hm,Tr.rb (zanb (by simp) (by simp))]
    by_cases h4:(zty ⟨4,id,v,maxC c v,[],[]⟩ now c).1=0
    ·rw[Tr.rf (by simpa using h4),Tr.rl,h4]
    ·rw[Tr.rt (by simpa using h4),Tr.rl]
theorem zai9 {c:zb} {v id now:Int} (h:FitC 140737488351232 c):zgn c v id now=some (zo2 c v id now):=by
 have e1:=h.set
 rw[zgn,zvq,Tr.rb (zpg h)]
 unfold zo2
 by_cases h1:zjs c=false∨now < 0∨1099511627776 < now
 ·rw[if_pos h1,Tr.rt (by simpa[or_assoc] using h1),Tr.rl]
 ·rw[if_neg h1,Tr.rf (by rw[Bool.eq_false_iff];intro k;apply h1;simpa[or_assoc] using k)]
  by_cases h2:c.On=false∨v < 0∨5 < v
  ·rw[if_pos h2,Tr.rt (by
    simp only[Bool.or_eq_true,Bool.not_eq_true',decide_eq_true_eq]
    rcases h2 with h2 | h2 | h2
    ·exact .inl (.inl h2)
    ·exact .inl (.inr h2)
    ·exact .inr (by omega)),Tr.rl]
  ·simp only[not_or] at h2
   rw[if_neg (by simp only[not_or];exact h2),Tr.rf (by
    simp only[Bool.or_eq_false_iff,Bool.not_eq_false',yy8]
    exact ⟨⟨by simpa using h2.1,h2.2.1⟩,by omega⟩)]
   by_cases h3:id < 1∨c.Id < id
   ·rw[if_pos h3,Tr.rt (by simpa using h3),Tr.rl]
   ·rw[if_neg h3,Tr.rf (by simp;omega),Tr.rb (zaio (by omega)),Tr.rg (by omega),zanc (by omega)]
    by_cases h5:zcv c.Set v=0
    ·have hm:maxC c v=1:=if_pos h5
     rw[hm,Tr.rt (by simpa using h5),Tr.rb (z6d h (by simp) (by simp)),Tr.rl]
    ·have hm:maxC c v=zcv c.Set v:=if_neg h5
     rw[hm,Tr.rf (by simpa using h5),Tr.rb (z6d h (by simp) (by simp)),Tr.rl]
def zyl (c:zb):zb:=if c.On=false then c else { c with On:=false,Gone:=true,Out:={ c.Out with Closed:=true } }
theorem zaja {c:zb}:ziy c=some (zyl c):=by
 rw[ziy,zoh]
 unfold zyl
 cases ho:c.On with
 | false=>rw[Tr.rt (by rfl),Tr.rl,if_pos rfl]
 | true=>rw[Tr.rf (by rfl),Tr.rl,if_neg (by simp)]
theorem zajb {c:zb} (h:FitC 140737488351232 c):zbh c=some (zyl c):=by
 rw[zbh,zkm]
 unfold zyl
 cases ho:c.On with
 | false=>rw[Tr.rf rfl,Tr.rl,if_pos rfl]
 | true=>rw[Tr.rt rfl,Tr.rb (zana h),Tr.rl,if_neg (by simp)]
theorem zale {l:zcl} {s:ByteArray} {u:Int} (h:(z83 l s u).2=0):zdv l∧0≤u∧l.Closed=false∧l.Said.length < 400∧z83 l s u=({ l with Said:=l.Said++[s],Due:=l.Due++[u] },0):=by
 unfold z83 at h ⊢
 by_cases h1:¬ zdv l∨u < 0
 ·rw[if_pos h1] at h;cases h
 ·rw[if_neg h1] at h ⊢
  simp only[not_or,Classical.not_not] at h1
  by_cases h2:l.Closed=true
  ·rw[if_pos h2] at h;cases h
  ·rw[if_neg h2] at h ⊢
   by_cases h3:400≤l.Said.length
   ·rw[if_pos h3] at h;cases h
   ·rw[if_neg h3]
    exact ⟨h1.1,by omega,by simpa using h2,by omega,rfl⟩
theorem zaxx {l:zcl} {s:ByteArray} {u:Int} (h1:zdv l) (h2:0≤u) (h3:l.Closed=false) (h4:l.Said.length < 400):z83 l s u=({ l with Said:=l.Said++[s],Due:=l.Due++[u] },0):=by
 unfold z83
 rw[if_neg (by simp only[not_or,Classical.not_not];exact ⟨h1,by omega⟩),if_neg (by rw[h3];simp),if_neg (by omega)]
theorem zaew {l:zcl} {s:ByteArray} {u:Int} (h1:zdv l) (h2:0≤u) (h4:l.Said.length < 400):zdv { l with Said:=l.Said++[s],Due:=l.Due++[u] }:=by
 obtain ⟨g1,g2,g3,g4,g5⟩:=h1
 refine ⟨by simp[g1],by simp only[yy6,yy5];omega,g3,by simp only[yy6,yy5];omega,?_⟩
 simp only[List.any_append,g5,Bool.false_or,List.any_cons,List.any_nil,Bool.or_false,yy8]
 omega
theorem zasf {p:Packet} {now:Int} {c:zb} (h:(zty p now c).1=0):zf1 p=0∧(z83 c.Out (txt (z4a p)) (IntKind.i64.wrap (now+40))).2=0 ∧
  zty p now c=(0,{ c with Out:={ c.Out with Said:=c.Out.Said++[txt (z4a p)],Due:=c.Out.Due++[IntKind.i64.wrap (now+40)] } }):=by
 have hg:zf1 p=0:=by
  refine Classical.byContradiction fun hn=>?_
  unfold zty at h
  rw[zak2 hn,if_pos hn] at h
  exact hn h
 unfold zty at h ⊢
 rw[zp4 hg,if_neg (by simp)] at h ⊢
 simp only at h ⊢
 by_cases hs:(z83 c.Out (txt (z4a p)) (IntKind.i64.wrap (now+40))).2=0
 ·rw[if_neg (by simpa using hs),(zale hs).2.2.2.2]
  exact ⟨hg,rfl,rfl⟩
 ·rw[if_pos hs] at h
  exact absurd h hs
theorem zaxy {p:Packet} {now:Int} {c:zb} (hg:zf1 p=0) (h1:zdv c.Out) (h2:0≤IntKind.i64.wrap (now+40)) (h3:c.Out.Closed=false) (h4:c.Out.Said.length < 400) :
  zty p now c=(0,{ c with Out:={ c.Out with Said:=c.Out.Said++[txt (z4a p)],Due:=c.Out.Due++[IntKind.i64.wrap (now+40)] } }):=by
 unfold zty
 rw[zp4 hg,if_neg (by simp)]
 simp only
 rw[zaxx h1 h2 h3 h4,if_neg (by simp)]
theorem zur {c:zb} (h1:zag5 c) (h2:zdv c.Out) (h3:zv 1 (-1) c.Set=true) (h4:c.Ripes.all zmi=true) (h5:c.Pending.all zkd=true):zjs c=true:=by
 unfold zjs
 rw[decide_eq_true h1,decide_eq_true h2,h3,h4,h5];rfl
theorem zaxz {now:Int} {c:zb} (h1:zjs c=true) (h2:c.On=true) (h3:c.Time≤now) (h4:now≤1099511627776) :
  z9s now c=(zp9 now (c.Pending.foldl (zq1 now) { c with Height:=IntKind.i64.wrap (c.Height+1),Time:=now }).Ripes { c.Pending.foldl (zq1 now) { c with Height:=IntKind.i64.wrap (c.Height+1),Time:=now } with Pending:=[] },0):=by
 unfold z9s
 rw[if_neg (by rw[h1];simp),if_neg (by rw[h2];simp),if_neg (by omega)]
theorem zax0 {c:zb} {v now:Int} (h:(z4f c v now).2=0):zjs c=true∧0≤now∧now≤1099511627776∧c.On=true∧0≤v∧v≤5∧zcv c.Set v≠0∧(zty ⟨3,c.Id,v,zcv c.Set v,[],[]⟩ now c).1=0 ∧
  z4f c v now=({ (zty ⟨3,c.Id,v,zcv c.Set v,[],[]⟩ now c).2 with Flags:=(zty ⟨3,c.Id,v,zcv c.Set v,[],[]⟩ now c).2.Flags.set v true },0):=by
 unfold z4f at h ⊢
 by_cases h1:zjs c=false∨now < 0∨1099511627776 < now
 ·rw[if_pos h1] at h;cases h
 ·rw[if_neg h1] at h ⊢
  by_cases h2:c.On=false∨v < 0∨5 < v∨zcv c.Set v=0
  ·rw[if_pos h2] at h;cases h
  ·rw[if_neg h2] at h ⊢
   by_cases h3:c.Flags.get v=true
   ·rw[if_pos h3] at h;cases h
   ·rw[if_neg h3] at h ⊢
    by_cases h4:(zty ⟨3,c.Id,v,zcv c.Set v,[],[]⟩ now c).1=0
    ·rw[if_neg (by simpa using h4)]
     simp only[not_or] at h1 h2
     exact ⟨by simpa using h1.1,by omega,by omega,by simpa using h2.1,by omega,by omega,h2.2.2.2,h4,rfl⟩
    ·rw[if_pos h4] at h
     exact absurd h h4
theorem zab3:zdv ⟨[],[],0,false⟩:=⟨rfl,by decide,by decide,by decide,by decide⟩
theorem zasg {id:Int} (h1:1≤id) (h2:id≤1099511627776):zf1 ⟨2,id,0,0,[],[]⟩=0:=by
 unfold zf1
 rw[if_neg (by simp),if_neg (by simp;omega),if_neg (by simp),if_neg (by simp[zv]),if_neg (by simp[z8])]
theorem zalf {m p q:Int} {l:List Power} (h:zv m q l=true) (hp:p≤q):zv m p l=true:=by
 cases l with
 | nil=>rfl
 | cons a l =>
  simp only[zv,yy7,decide_eq_true_eq] at h ⊢
  exact ⟨⟨⟨⟨by omega,h.1.1.1.2⟩,h.1.1.2⟩,h.1.2⟩,h.2⟩
theorem zr9 {m p w n:Int} {s l:List Power} (hs:s=[]∨(s=[⟨w,n⟩]∧m≤n∧n≤1125899906842624)) (hp:p < w) (hw:w≤5) (hl:zv m w l=true):zv m p (s++l)=true:=by
 rcases hs with rfl | ⟨rfl,h1,h2⟩
 ·exact zalf hl (by omega)
 ·simp only[List.cons_append,List.nil_append,zv,yy7,decide_eq_true_eq]
  exact ⟨⟨⟨⟨hp,hw⟩,h1⟩,h2⟩,hl⟩
theorem z7t {w n:Int} (h:n≤1125899906842624):z0y w n=[]∨(z0y w n=[⟨w,n⟩]∧(1:Int)≤n∧n≤1125899906842624):=by
 unfold z0y
 by_cases hn:0 < n
 ·rw[if_pos hn];exact .inr ⟨rfl,by omega,h⟩
 ·rw[if_neg hn];exact .inl rfl
theorem zax1 {f:Nat→Int} (h:∀ v,f v≤1125899906842624):zv 1 (-1) (znr f)=true:=by
 rw[zagl]
 exact zr9 (z7t (h 0)) (by omega) (by omega) (zr9 (z7t (h 1)) (by omega) (by omega) (zr9 (z7t (h 2)) (by omega) (by omega) (zr9 (z7t (h 3)) (by omega) (by omega)
  (zr9 (z7t (h 4)) (by omega) (by omega) (zr9 (z7t (h 5)) (by omega) (by omega) rfl)))))
abbrev zgy (L:Links) (c:Int):zcl:=⟨L.Said.get c,L.Due.get c,L.Got.get c,L.Closed.get c⟩
def z87 (p:za) (c:Int):Bool := !(p.Links.On.get c&&p.Links.Gone.get c)&&decide (0≤p.Links.Base.get c)&&decide (p.Links.Base.get c≤p.Height)&&zv 1 (-1) (p.Links.Told.get c)&&decide (zdv (zgy p.Links c))&&z8 (-1) (p.Links.Done.get c)
def ztz (p:za) (a:Asked):Bool:=decide (0≤a.C)&&decide (a.C < 2)&&p.Links.On.get a.C&&(zf1 a.P==0) && !(a.P.Kind==1)
def zw0 (p:za):Prop:=0≤p.Height∧p.Height < 1099511627776∧0≤p.Time∧p.Time≤1099511627776
instance (p:za):Decidable (zw0 p):=inferInstanceAs (Decidable (_∧_))
def zao (p:za):Bool:=decide (GoodS p.Stake)&&decide (zw0 p)&&zv 1 (-1) p.Set&&z87 p 0&&z87 p 1&&p.Queue.all (ztz p)
structure FitPr (R:Nat) (p:za):Prop where
 waits:p.Stake.Waits.length*64≤R
 set:p.Set.length*16≤R
 told:∀ c,(p.Links.Told.get c).length*16≤R
 done:∀ c,(p.Links.Done.get c).length*8≤R
 said:∀ c,(p.Links.Said.get c).length*16≤R
 due:∀ c,(p.Links.Due.get c).length*8≤R
 queue:p.Queue.length*88≤R
 ps:∀ a,a∈p.Queue→a.P.Set.length*16≤R∧a.P.Done.length*8≤R
theorem FitPr.mono {R S:Nat} {p:za} (h:FitPr R p) (hr:R≤S):FitPr S p :=
 ⟨Nat.le_trans h.waits hr,Nat.le_trans h.set hr,fun c=>Nat.le_trans (h.told c) hr,fun c=>Nat.le_trans (h.done c) hr,fun c=>Nat.le_trans (h.said c) hr,fun c=>Nat.le_trans (h.due c) hr,Nat.le_trans h.queue hr,
  fun a ha=>⟨Nat.le_trans (h.ps a ha).1 hr,Nat.le_trans (h.ps a ha).2 hr⟩⟩
theorem zash {L:Links} {c:Int} {p:za} {k:Link} {l:List Int} (hp:k.Done=l) (hl:l.length≤9223372036854775807) :
  ∃ r,zs0 L c l l.length 0 p k=some r∧(match r with | .inl b=>b=false∧z8 (-1) l=false | .inr x=>x=(L,c,p)∧z8 (-1) l=true):=by
 have:=ziv (F:=fun s:Links×Int×(List Int)×Int×Int×za×Link=>(ziz s.1 s.2.1 s.2.2.1 s.2.2.2.1 s.2.2.2.2.1 s.2.2.2.2.2.1 s.2.2.2.2.2.2).run)
  (fun s=>s.1=L∧s.2.1=c∧s.2.2.1=l∧s.2.2.2.1=l.length∧0≤s.2.2.2.2.1∧s.2.2.2.2.1≤l.length∧s.2.2.2.2.2.1=p∧s.2.2.2.2.2.2=k∧(0 < s.2.2.2.2.1→0≤zry l s.2.2.2.2.1)) (fun s=>l.length - s.2.2.2.2.1.toNat)
  (fun s r=>match r with | .inl b=>b=false∧z8 (zry l s.2.2.2.2.1) (l.drop s.2.2.2.2.1.toNat)=false | .inr x=>x=(L,c,p)∧z8 (zry l s.2.2.2.2.1) (l.drop s.2.2.2.2.1.toNat)=true) ?_ (L,c,l,(l.length:Int),0,p,k) ⟨rfl,rfl,rfl,rfl,by simp,by simp,rfl,rfl,by simp⟩
 ·exact this
 ·rintro ⟨y0,y1,x0,x1,x2,x3,x4⟩ ⟨g1,g2,h1,h2,h3,h4,h5,g3,h6⟩
  simp only at g1 g2 g3 h1 h2 h3 h4 h5 h6
  rw[g1,g2,g3,h1,h2,h5] at *
  simp only[ziz,hp]
  by_cases hc:x2 < l.length
  ·have hs:=z2 (l:=l) (k:=x2.toNat) (by omega) 0
   rw[Tr.rt (by simpa using hc),Tr.rg ⟨h3,hc⟩,Tr.rg (by
    intro h _
    simp only[decide_eq_true_eq] at h
    rw[zf (x:=x2 - 1) (by omega) (by omega)]
    exact ⟨⟨by omega,by simp only[Sl.len];omega⟩,trivial⟩)]
   rw[hs]
   have hp:(decide (x2 > 0)&&decide (l.getD (IntKind.i64.wrap (x2 - 1)).toNat 0≥l.getD x2.toNat 0))=(decide (x2 > 0)&&decide (zry l x2≥l.getD x2.toNat 0)):=by
    by_cases h0:x2 > 0
    ·rw[zf (x:=x2 - 1) (by omega) (by omega)]
     unfold zry
     rw[if_neg (by omega)]
    ·simp[h0]
   rw[hp]
   generalize hq:l.getD x2.toNat 0=q at *
   by_cases hd:zry l x2 < q∧q≤5
   ·obtain ⟨d1,d2⟩:=hd
    have hw:IntKind.i64.wrap (x2+1)=x2+1:=zf (by omega) (by omega)
    have hpv:zry l (x2+1)=q:=by unfold zry;rw[if_neg (by omega),show x2+1 - 1=x2 by omega,hq]
    have hq0:0≤q:=by
     by_cases h0:x2 > 0
     ·have:=h6 h0;omega
     ·have:zry l x2 = -1:=by unfold zry;rw[if_pos (by omega)]
      omega
    refine .inl ⟨_,by rw[Tr.rf (by simp;omega),Tr.rl,hw],⟨rfl,rfl,rfl,rfl,?_,?_,rfl,rfl,?_⟩,?_,?_⟩
    ·simp only[];omega
    ·simp only[];omega
    ·simp only[];rw[hpv];intro _;omega
    ·simp only[];omega
    ·simp only[]
     rw[hpv,show (x2+1).toNat=x2.toNat+1 by omega]
     intro r hr
     rw[z8,decide_eq_true d1,decide_eq_true d2]
     simpa using hr
   ·refine .inr ⟨_,by rw[Tr.rt (by
     by_cases h0:x2 > 0
     ·have:=h6 h0
      simp[h0];omega
     ·have:zry l x2 = -1:=by unfold zry;rw[if_pos (by omega)]
      simp[h0];omega),Tr.rl],?_⟩
    refine ⟨rfl,?_⟩
    rw[z8]
    simp only[Bool.and_eq_false_iff,yy8]
    omega
  ·refine .inr ⟨_,by rw[Tr.rf (by simpa using hc),Tr.rl],?_⟩
   refine ⟨rfl,?_⟩
   rw[List.drop_eq_nil_of_le (by omega)];rfl
theorem zajc {L:Links} {c:Int} {p:za} {k:Link} {l:List Int} (hl:l.length≤9223372036854775807) :
  ∃ r,znz (-1) L c l l.length 0 p k=some r∧(match r with | .inl b=>b=false∧z8 (-1) l=false | .inr x=>x=(L,c,p,k)∧z8 (-1) l=true):=by
 have:=ziv (F:=fun s:Int×Links×Int×(List Int)×Int×Int×za×Link=>(zfl s.1 s.2.1 s.2.2.1 s.2.2.2.1 s.2.2.2.2.1 s.2.2.2.2.2.1 s.2.2.2.2.2.2.1 s.2.2.2.2.2.2.2).run)
  (fun s=>s.2.1=L∧s.2.2.1=c∧s.2.2.2.1=l∧s.2.2.2.2.1=l.length∧0≤s.2.2.2.2.2.1∧s.2.2.2.2.2.1≤l.length∧s.2.2.2.2.2.2.1=p∧s.2.2.2.2.2.2.2=k) (fun s=>l.length - s.2.2.2.2.2.1.toNat)
  (fun s r=>match r with | .inl b=>b=false∧z8 s.1 (l.drop s.2.2.2.2.2.1.toNat)=false | .inr x=>x=(L,c,p,k)∧z8 s.1 (l.drop s.2.2.2.2.2.1.toNat)=true) ?_ (-1,L,c,l,(l.length:Int),0,p,k) ⟨rfl,rfl,rfl,rfl,by simp,by simp,rfl,rfl⟩
 ·exact this
 ·rintro ⟨x0,y0,y1,x1,x2,x3,y2,y3⟩ ⟨g1,g2,h1,h2,h3,h4,g3,g4⟩
  simp only at g1 g2 g3 g4 h1 h2 h3 h4
  rw[g1,g2,g3,g4,h1,h2] at *
  simp only[zfl]
  by_cases hc:x3 < l.length
  ·have hs:=z2 (l:=l) (k:=x3.toNat) (by omega) 0
   rw[Tr.rt (by simpa using hc),Tr.rg ⟨h3,hc⟩,hs]
   generalize hq:l.getD x3.toNat 0=q at *
   by_cases hd:x0 < q∧q≤5
   ·obtain ⟨d1,d2⟩:=hd
    have hw:IntKind.i64.wrap (x3+1)=x3+1:=zf (by omega) (by omega)
    refine .inl ⟨_,by rw[Tr.rf (by simp;omega),Tr.rl,hw],⟨rfl,rfl,rfl,rfl,?_,?_,rfl,rfl⟩,?_,?_⟩
    ·simp only[];omega
    ·simp only[];omega
    ·simp only[];omega
    ·simp only[]
     rw[show (x3+1).toNat=x3.toNat+1 by omega]
     intro r hr
     rw[z8,decide_eq_true d1,decide_eq_true d2]
     simpa using hr
   ·refine .inr ⟨_,by rw[Tr.rt (by simp;omega),Tr.rl],?_⟩
    refine ⟨rfl,?_⟩
    rw[z8]
    simp only[Bool.and_eq_false_iff,yy8]
    omega
  ·refine .inr ⟨_,by rw[Tr.rf (by simpa using hc),Tr.rl],?_⟩
   refine ⟨rfl,?_⟩
   rw[List.drop_eq_nil_of_le (by omega)];rfl
theorem z9t {l:List Power} (hl:l.length≤9223372036854775807):zds l=some (zv 1 (-1) l):=by
 have:∃ r,zth (-1) l l.length 0=some r∧(match r with | .inl b=>b=false∧zv 1 (-1) l=false | .inr _=>zv 1 (-1) l=true):=by
  have:=ziv (F:=fun s:Int×(List Power)×Int×Int=>(zib s.1 s.2.1 s.2.2.1 s.2.2.2).run)
   (fun s=>s.2.1=l∧s.2.2.1=l.length∧0≤s.2.2.2∧s.2.2.2≤l.length) (fun s=>l.length - s.2.2.2.toNat)
   (fun s r=>match r with | .inl b=>b=false∧zv 1 s.1 (l.drop s.2.2.2.toNat)=false | .inr x=>zv 1 s.1 (l.drop s.2.2.2.toNat)=true) ?_ (-1,l,(l.length:Int),0) ⟨rfl,rfl,by simp,by simp⟩
  ·exact this
  ·rintro ⟨x0,x1,x2,x3⟩ ⟨h1,h2,h3,h4⟩
   simp only at h1 h2 h3 h4
   rw[h1,h2] at *
   simp only[zib]
   by_cases hc:x3 < l.length
   ·have hs:=z2 (l:=l) (k:=x3.toNat) (by omega) default
    rw[Tr.rt (by simpa using hc),Tr.rg ⟨h3,hc⟩,hs]
    generalize hq:l.getD x3.toNat default=q at *
    by_cases hd:x0 < q.V∧q.V≤5∧1≤q.N∧q.N≤1125899906842624
    ·obtain ⟨d1,d2,d3,d4⟩:=hd
     have hw:IntKind.i64.wrap (x3+1)=x3+1:=zf (by omega) (by omega)
     refine .inl ⟨_,by rw[Tr.rf (by simp;omega),Tr.rl,hw],⟨rfl,rfl,?_,?_⟩,?_,?_⟩
     ·simp only[];omega
     ·simp only[];omega
     ·simp only[];omega
     ·simp only[]
      rw[show (x3+1).toNat=x3.toNat+1 by omega]
      intro r hr
      rw[zv,decide_eq_true d1,decide_eq_true d2,decide_eq_true d3,decide_eq_true d4]
      simpa using hr
    ·refine .inr ⟨_,by rw[Tr.rt (by simp;omega),Tr.rl],?_⟩
     refine ⟨rfl,?_⟩
     rw[zv]
     simp only[Bool.and_eq_false_iff,yy8]
     omega
   ·refine .inr ⟨_,by rw[Tr.rf (by simpa using hc),Tr.rl],?_⟩
    rw[List.drop_eq_nil_of_le (by omega)];rfl
 obtain ⟨r,h1,h2⟩:=this
 rw[zds,zx8]
 cases r with
 | inl b=>rw[Tr.ri h1,Tr.rl,h2.1,h2.2]
 | inr x=>rw[Tr.rj h1,Tr.rl,h2]
theorem zax2 {l:List Power} (hl:l.length≤9223372036854775807) :
  ∃ r,zui l l l.length 0=some r∧(match r with | .inl b=>b=false∧zv 1 (-1) l=false | .inr x=>zv 1 (-1) l=true):=by
 have:=ziv (F:=fun s:(List Power)×(List Power)×Int×Int=>(zj7 s.1 s.2.1 s.2.2.1 s.2.2.2).run)
  (fun s=>s.1=l∧s.2.1=l∧s.2.2.1=l.length∧0≤s.2.2.2∧s.2.2.2≤l.length ∧ -1≤zi3 l s.2.2.2∧(0 < s.2.2.2→0≤zi3 l s.2.2.2)) (fun s=>l.length - s.2.2.2.toNat)
  (fun s r=>match r with | .inl b=>b=false∧zv 1 (zi3 l s.2.2.2) (l.drop s.2.2.2.toNat)=false | .inr x=>zv 1 (zi3 l s.2.2.2) (l.drop s.2.2.2.toNat)=true) ?_ (l,l,(l.length:Int),0) ⟨rfl,rfl,rfl,by simp,by simp,by simp[zi3],by simp⟩
 ·exact this
 ·rintro ⟨y0,x0,x1,x2⟩ ⟨g1,h1,h2,h3,h4,h6,h7⟩
  simp only at g1 h1 h2 h3 h4 h6 h7
  rw[g1,h1,h2] at *
  simp only[zj7]
  by_cases hc:x2 < l.length
  ·have hs:=z2 (l:=l) (k:=x2.toNat) (by omega) default
   rw[Tr.rt (by simpa using hc),Tr.rg ⟨h3,hc⟩,Tr.rg (by
    intro h _
    simp only[decide_eq_true_eq] at h
    rw[zf (x:=x2 - 1) (by omega) (by omega)]
    exact ⟨⟨by omega,by simp only[Sl.len];omega⟩,trivial⟩)]
   rw[hs]
   have hp:(decide (x2 > 0)&&decide ((l.getD (IntKind.i64.wrap (x2 - 1)).toNat default).V≥(l.getD x2.toNat default).V))=(decide (x2 > 0)&&decide (zi3 l x2≥(l.getD x2.toNat default).V)):=by
    by_cases h0:x2 > 0
    ·rw[zf (x:=x2 - 1) (by omega) (by omega)]
     unfold zi3
     rw[if_neg (by omega)]
    ·simp[h0]
   rw[hp]
   generalize hq:l.getD x2.toNat default=q at *
   by_cases hd:zi3 l x2 < q.V∧q.V≤5∧1≤q.N∧q.N≤1125899906842624
   ·obtain ⟨d1,d2,d3,d4⟩:=hd
    have hw:IntKind.i64.wrap (x2+1)=x2+1:=zf (by omega) (by omega)
    have hpv:zi3 l (x2+1)=q.V:=by unfold zi3;rw[if_neg (by omega),show x2+1 - 1=x2 by omega,hq]
    refine .inl ⟨_,by rw[Tr.rf (by simp;omega),Tr.rl,hw],⟨rfl,rfl,rfl,?_,?_,?_,?_⟩,?_,?_⟩
    ·simp only[];omega
    ·simp only[];omega
    ·simp only[];rw[hpv];omega
    ·simp only[];rw[hpv];intro _;omega
    ·simp only[];omega
    ·simp only[]
     rw[hpv,show (x2+1).toNat=x2.toNat+1 by omega]
     intro r hr
     rw[zv,decide_eq_true d1,decide_eq_true d2,decide_eq_true d3,decide_eq_true d4]
     simpa using hr
   ·refine .inr ⟨_,by rw[Tr.rt (by
     by_cases h0:x2 > 0
     ·have:=h7 h0
      simp[h0];omega
     ·have:zi3 l x2 = -1:=by unfold zi3;rw[if_pos (by omega)]
      simp[h0];omega),Tr.rl],?_⟩
    refine ⟨rfl,?_⟩
    rw[zv]
    simp only[Bool.and_eq_false_iff,yy8]
    omega
  ·refine .inr ⟨_,by rw[Tr.rf (by simpa using hc),Tr.rl],?_⟩
   rw[List.drop_eq_nil_of_le (by omega)];rfl
theorem z1r {l:List Power} (hl:l.length≤9223372036854775807):zew l=some (zv 1 (-1) l):=by
 obtain ⟨r,h1,h2⟩:=zax2 hl
 rw[zew,zvk]
 cases r with
 | inl b=>rw[Tr.ri h1,Tr.rl,h2.1,h2.2]
 | inr x=>rw[Tr.rj h1,Tr.rl,h2]
theorem zbc3 {p:za} {a:Asked} (h:a.P.Set.length*16≤140737488351232∧a.P.Done.length*8≤140737488351232):znb a p=some (!ztz p a,p):=by
 rw[znb,zoi,Tr.rg (by
  intro h0
  simp only[Bool.or_eq_false_iff,yy8] at h0
  exact ⟨⟨by omega,by omega⟩,trivial⟩),Tr.rg (fun _=>⟨by rw[z53 h.1 h.2];rfl,trivial⟩),Tr.rl,z53 h.1 h.2]
 congr 2
 unfold ztz
 simp only[yy2]
 have e1:decide (a.C < 0) = !decide (0≤a.C):=by rw[← decide_not];congr 1;exact propext ⟨fun h=>by omega,fun h=>by omega⟩
 have e2:decide (a.C≥2) = !decide (a.C < 2):=by rw[← decide_not];congr 1;exact propext ⟨fun h=>by omega,fun h=>by omega⟩
 rw[e1,e2]
 simp only[Bool.not_and,Bool.not_not]
 rfl
theorem za35 {l:List Asked} {p:za} (hl:l.length≤9223372036854775807) (hp:∀ a,a∈l→a.P.Set.length*16≤140737488351232∧a.P.Done.length*8≤140737488351232) :
  zc9 l p=some (!l.all (ztz p),p):=by
 obtain ⟨r,h1,h2⟩:=zhz (F:=fun s:(List Asked)×Int×Int×za=>(zam s.1 s.2.1 s.2.2.1 s.2.2.2).run) l.length
  (fun i (_:Unit)=>(l,(l.length:Int),(i:Int),p)) (fun i _=>True) (fun i _ r=>match r with | .inl k=>(0≤k.1∧k.2=p)∧(l.drop i).all (ztz p)=false | .inr q=>q=p∧(l.drop i).all (ztz p)=true) (by
   intro t _
   refine ⟨.inr p,?_,rfl,?_⟩
   ·simp only[zam];rw[Tr.rf (by simp),Tr.rl]
   ·rw[List.drop_length];rfl) (by
   intro i t hi _
   have hs:=z2 (l:=l) (k:=i) hi default
   have hm:=zbu (l:=l) (k:=i) hi default
   simp only[zam,yy4]
   rw[Tr.rt (by simpa using hi),Tr.rg ⟨by omega,by show (i:Int) < (l.length:Nat);omega⟩,Tr.rb (zbc3 (hp _ hm)),hs]
   simp only[List.all_cons]
   obtain ⟨b,hb⟩:∃ b,b=ztz p (l.getD i default):=⟨_,rfl⟩
   rw[← hb]
   cases b with
   | true =>
    refine .inl ⟨(),?_,trivial,?_⟩
    ·rw[Tr.rf (show (!true)=false from rfl),Tr.rl,zl (by omega)]
    ·intro r hr
     cases r with
     | inl x=>exact ⟨hr.1,by rw[hr.2];rfl⟩
     | inr x=>rw[Bool.true_and];exact hr
   | false =>
    refine .inr ⟨.inl (i,p),?_,⟨by simp only[];omega,rfl⟩,by rfl⟩
    rw[Tr.rt (show (!false)=true from rfl),Tr.rl]) 0 () (by omega) trivial
 have h1:ze1 l l.length 0 p=some r:=h1
 rw[zc9,zde]
 cases r with
 | inl k =>
  simp only[List.drop_zero] at h2
  rw[Tr.rb (v:=k) (by rw[zdd,zbs,Tr.ri h1,Tr.rl]),Tr.rl,h2.2,h2.1.2]
  simp[h2.1.1]
 | inr k =>
  simp only[List.drop_zero] at h2
  rw[Tr.rb (v:=(-1,k)) (by rw[zdd,zbs,Tr.rj h1,Tr.rl]),Tr.rl,h2.2,h2.1]
  rfl
theorem zbc4 (x y b c d e:Bool):(((((x&&y) || !b) || !c) || !d) || !e) = !(!(x&&y)&&b&&c&&d&&e):=by
 cases x<;>cases y<;>cases b<;>cases c<;>cases d<;>cases e<;>rfl
theorem zajd {p:za} (hf:FitPr 140737488351232 p) {c:Nat} (hc:c < 2) :
  (zdz p.Links c p).run=some (if z87 p c=true then .inl (p.Links,((c+1:Nat):Int),p) else .inr (.inl false)):=by
 simp only[zdz]
 have ht:=hf.told c
 have hd:=hf.done c
 rw[Tr.rt (by simp;omega),Tr.rg ⟨by omega,by omega⟩,Tr.rg (fun _=>⟨by rw[z1r (by omega)];rfl,trivial⟩),Tr.rg (fun _=>⟨by rw[z7l];rfl,trivial⟩),z1r (by omega),z7l]
 simp only[yy2]
 have e:((((((p.Links.On.get (c:Int))&&(p.Links.Gone.get (c:Int)))||(decide ((p.Links.Base.get (c:Int)) < 0)))||(decide ((p.Links.Base.get (c:Int)) > p.Height)))||(!zv 1 (-1) (p.Links.Told.get (c:Int))))||(!decide (zdv (zgy p.Links c)))) =
   !(!(p.Links.On.get (c:Int)&&p.Links.Gone.get (c:Int))&&decide (0≤p.Links.Base.get (c:Int))&&decide (p.Links.Base.get (c:Int)≤p.Height)&&zv 1 (-1) (p.Links.Told.get (c:Int))&&decide (zdv (zgy p.Links c))):=by
  have e1:decide (p.Links.Base.get (c:Int) < 0) = !decide (0≤p.Links.Base.get (c:Int)):=by rw[← decide_not];congr 1;exact propext ⟨fun h=>by omega,fun h=>by omega⟩
  have e2:decide (p.Links.Base.get (c:Int) > p.Height) = !decide (p.Links.Base.get (c:Int)≤p.Height):=by rw[← decide_not];congr 1;exact propext ⟨fun h=>by omega,fun h=>by omega⟩
  rw[e1,e2]
  exact zbc4 _ _ _ _ _ _
 rw[show zgy p.Links (c:Int)=(⟨p.Links.Said.get (c:Int),p.Links.Due.get (c:Int),p.Links.Got.get (c:Int),p.Links.Closed.get (c:Int)⟩:zcl) from rfl] at e
 rw[e]
 unfold z87
 rw[show zgy p.Links (c:Int)=(⟨p.Links.Said.get (c:Int),p.Links.Due.get (c:Int),p.Links.Got.get (c:Int),p.Links.Closed.get (c:Int)⟩:zcl) from rfl]
 generalize (!(p.Links.On.get (c:Int)&&p.Links.Gone.get (c:Int))&&decide (0≤p.Links.Base.get (c:Int))&&decide (p.Links.Base.get (c:Int)≤p.Height)&&zv 1 (-1) (p.Links.Told.get (c:Int))&&decide (zdv (⟨p.Links.Said.get (c:Int),p.Links.Due.get (c:Int),p.Links.Got.get (c:Int),p.Links.Closed.get (c:Int)⟩:zcl)))=b
 cases b with
 | false=>rw[Tr.rt (show (!false)=true from rfl),Tr.rl];rfl
 | true =>
  rw[Tr.rf (show (!true)=false from rfl)]
  obtain ⟨r,h1,h2⟩:=zash (L:=p.Links) (c:=(c:Int)) (p:=p) (k:=⟨p.Links.On.get c,p.Links.Gone.get c,p.Links.Base.get c,p.Links.Told.get c,p.Links.Fresh.get c,p.Links.Done.get c,⟨p.Links.Said.get c,p.Links.Due.get c,p.Links.Got.get c,p.Links.Closed.get c⟩,⟨p.Links.SHeight.get c,p.Links.STime.get c,p.Links.SSaid.get c,p.Links.SGot.get c⟩⟩)
   (l:=p.Links.Done.get c) rfl (by omega)
  cases r with
  | inl b=>rw[Tr.ri h1,Tr.rl,h2.1,h2.2];rfl
  | inr x=>rw[Tr.rj h1,Tr.rl,h2.1,h2.2,zl (by omega)];rfl
theorem zl7 {p:za} (hf:FitPr 140737488351232 p):zb5 p=some (zao p):=by
 have hs:=hf.set
 have hq:=hf.queue
 have loop:zlv p.Links 0 p=some (if z87 p 0=true then (if z87 p 1=true then .inr p else .inl false) else .inl false):=by
  rw[zlv]
  have t0:=zajd hf (c:=0) (by omega)
  have t1:=zajd hf (c:=1) (by omega)
  simp only[Int.ofNat_zero,Nat.zero_add,Int.ofNat_one] at t0 t1
  by_cases h0:z87 p 0=true
  ·rw[if_pos h0] at t0 ⊢
   rw[za1 (s':=(p.Links,((1:Nat):Int),p)) t0]
   by_cases h1:z87 p 1=true
   ·rw[if_pos h1] at t1 ⊢
    rw[za1 (s':=(p.Links,((2:Nat):Int),p)) t1,zbo (r:=.inr p) (by
     show (zdz p.Links 2 p).run=_
     simp only[zdz]
     rw[Tr.rf (by simp),Tr.rl])]
   ·rw[if_neg h1] at t1 ⊢
    rw[zbo (r:=.inl false) t1]
  ·rw[if_neg h0] at t0 ⊢
   rw[zbo (r:=.inl false) t0]
 rw[zb5,zs1,Tr.rb (z05 p.Stake),Tr.rg (fun _=>⟨by rw[z1r (by omega)];rfl,trivial⟩),z1r (by omega)]
 simp only[yy2]
 have e:((((((!decide (GoodS p.Stake))||(decide (p.Height < 0)))||(decide (p.Height≥1099511627776)))||(decide (p.Time < 0)))||(decide (p.Time > 1099511627776)))||(!zv 1 (-1) p.Set)) = !(decide (GoodS p.Stake)&&decide (zw0 p)&&zv 1 (-1) p.Set):=by
  rw[Bool.eq_iff_iff]
  simp only[Bool.or_eq_true,Bool.not_eq_true',yy8,decide_eq_true_eq,Bool.and_eq_false_iff]
  unfold zw0
  constructor
  ·rintro (((((h | h) | h) | h) | h) | h)
   ·exact .inl (.inl h)
   ·exact .inl (.inr (by omega))
   ·exact .inl (.inr (by omega))
   ·exact .inl (.inr (by omega))
   ·exact .inl (.inr (by omega))
   ·exact .inr h
  ·rintro ((h | h) | h)
   ·exact .inl (.inl (.inl (.inl (.inl h))))
   ·rcases (show p.Height < 0∨p.Height≥1099511627776∨p.Time < 0∨p.Time > 1099511627776 by omega) with k | k | k | k
    ·exact .inl (.inl (.inl (.inl (.inr k))))
    ·exact .inl (.inl (.inl (.inr k)))
    ·exact .inl (.inl (.inr k))
    ·exact .inl (.inr k)
   ·exact .inr h
 rw[e]
 unfold zao
 generalize (decide (GoodS p.Stake)&&decide (zw0 p)&&zv 1 (-1) p.Set)=b
 cases b with
 | false=>rw[Tr.rt (show (!false)=true from rfl),Tr.rl];rfl
 | true =>
  rw[Tr.rf (show (!true)=false from rfl)]
  by_cases h0:z87 p 0=true
  ·rw[if_pos h0] at loop
   by_cases h1:z87 p 1=true
   ·rw[if_pos h1] at loop
    rw[Tr.rj loop,Tr.rb (za35 (by omega) hf.ps),Tr.rl,h0,h1]
    simp
   ·rw[if_neg h1] at loop
    rw[Tr.ri loop,Tr.rl,h0,Bool.eq_false_iff.2 h1]
    rfl
  ·rw[if_neg h0] at loop
   rw[Tr.ri loop,Tr.rl,Bool.eq_false_iff.2 h0]
   rfl
theorem z8p {p:za} (hf:FitPr 140737488351232 p) {c:Nat} (hc:c < 2) :
  (zcf p.Links c p).run=some (if z87 p c=true then .inl (p.Links,((c+1:Nat):Int),p) else .inr (.inl false)):=by
 simp only[zcf]
 have ht:=hf.told c
 have hd:=hf.done c
 have hu:=hf.due c
 have hlu:(zgy p.Links c).Due.length≤9223372036854775807:=by show (p.Links.Due.get (c:Int)).length≤_;omega
 rw[Tr.rt (by simp;omega),Tr.rg ⟨by omega,by omega⟩]
 obtain ⟨r,h1,h2⟩:=zajc (L:=p.Links) (c:=(c:Int)) (p:=p) (k:=⟨p.Links.On.get c,p.Links.Gone.get c,p.Links.Base.get c,p.Links.Told.get c,p.Links.Fresh.get c,p.Links.Done.get c,⟨p.Links.Said.get c,p.Links.Due.get c,p.Links.Got.get c,p.Links.Closed.get c⟩,⟨p.Links.SHeight.get c,p.Links.STime.get c,p.Links.SSaid.get c,p.Links.SGot.get c⟩⟩)
  (l:=p.Links.Done.get c) (by omega)
 unfold z87
 cases r with
 | inl b =>
  rw[Tr.ri h1,Tr.rl,h2.1,h2.2,Bool.and_false];rfl
 | inr x =>
  rw[Tr.rj h1,h2.1,h2.2,Bool.and_true]
  simp only[]
  rw[Tr.rg (fun _=>⟨by rw[z9t (by omega)];rfl,trivial⟩),Tr.rg (fun _=>⟨by rw[zr6 hlu];rfl,trivial⟩),z9t (by omega),zr6 hlu]
  simp only[yy2]
  have e:((((((p.Links.On.get (c:Int))&&(p.Links.Gone.get (c:Int)))||(decide ((p.Links.Base.get (c:Int)) < 0)))||(decide ((p.Links.Base.get (c:Int)) > p.Height)))||(!zv 1 (-1) (p.Links.Told.get (c:Int))))||(!decide (zdv (⟨p.Links.Said.get (c:Int),p.Links.Due.get (c:Int),p.Links.Got.get (c:Int),p.Links.Closed.get (c:Int)⟩:zcl)))) =
    !(!(p.Links.On.get (c:Int)&&p.Links.Gone.get (c:Int))&&decide (0≤p.Links.Base.get (c:Int))&&decide (p.Links.Base.get (c:Int)≤p.Height)&&zv 1 (-1) (p.Links.Told.get (c:Int))&&decide (zdv (zgy p.Links c))):=by
   have e1:decide (p.Links.Base.get (c:Int) < 0) = !decide (0≤p.Links.Base.get (c:Int)):=by rw[← decide_not];congr 1;exact propext ⟨fun h=>by omega,fun h=>by omega⟩
   have e2:decide (p.Links.Base.get (c:Int) > p.Height) = !decide (p.Links.Base.get (c:Int)≤p.Height):=by rw[← decide_not];congr 1;exact propext ⟨fun h=>by omega,fun h=>by omega⟩
   rw[e1,e2]
   exact zbc4 _ _ _ _ _ _
  rw[e]
  generalize (!(p.Links.On.get (c:Int)&&p.Links.Gone.get (c:Int))&&decide (0≤p.Links.Base.get (c:Int))&&decide (p.Links.Base.get (c:Int)≤p.Height)&&zv 1 (-1) (p.Links.Told.get (c:Int))&&decide (zdv (zgy p.Links (c:Int))))=b
  cases b with
  | false=>rw[Tr.rt (show (!false)=true from rfl),Tr.rl];rfl
  | true=>rw[Tr.rf (show (!true)=false from rfl),Tr.rl,zl (by omega)];rfl
theorem zapa {l:List Asked} {p:za} (hl:l.length≤9223372036854775807) (hp:∀ a,a∈l→a.P.Set.length*16≤140737488351232∧a.P.Done.length*8≤140737488351232) :
  zil l l.length 0 p=some (if l.all (ztz p)=true then .inr () else .inl false):=by
 have test:∀ a:Asked,a.P.Set.length*16≤140737488351232∧a.P.Done.length*8≤140737488351232→(((((decide (a.C < 0))||(decide (a.C > 1)))||(!(p.Links.On.get a.C)))||((a.P.Kind)==1))||(((zaw a.P).getD default) != 0)) = !ztz p a:=by
  intro a ha
  rw[zl6 ha.1 ha.2,yy2]
  unfold ztz
  have e1:decide (a.C < 0) = !decide (0≤a.C):=by rw[← decide_not];congr 1;exact propext ⟨fun h=>by omega,fun h=>by omega⟩
  have e2:decide (a.C > 1) = !decide (a.C < 2):=by rw[← decide_not];congr 1;exact propext ⟨fun h=>by omega,fun h=>by omega⟩
  rw[e1,e2]
  simp only[Bool.not_and,Bool.not_not,Bool.or_assoc]
  congr 3
  rw[Bool.or_comm];rfl
 have z70:∀ (i:Nat) (t:Tr (((List Asked)×Int×Int×za)⊕((Bool)⊕(Unit)))),i < l.length→(Tr.guard ((((decide (((l.getD i default).C) < 0))||(decide (((l.getD i default).C) > 1)))=false→((0:Int)≤((l.getD i default).C)∧(((l.getD i default).C):Int) < 2)∧True))
   (Tr.guard ((((((decide (((l.getD i default).C) < 0))||(decide (((l.getD i default).C) > 1)))||(!(p.Links.On.get ((l.getD i default).C))))||((((l.getD i default).P).Kind)==1))=false→((zaw ((l.getD i default).P)).isSome=true)∧True)) t)).run=t.run:=by
  intro i t hi
  obtain ⟨p1,p2⟩:=hp _ (zbu (l:=l) (k:=i) hi default)
  rw[Tr.rg (by
   intro h0
   simp only[Bool.or_eq_false_iff,yy8] at h0
   exact ⟨⟨by omega,by omega⟩,trivial⟩),Tr.rg (fun _=>⟨by rw[zl6 p1 p2];rfl,trivial⟩)]
 rw[zil]
 have:=z9k (F:=fun s:(List Asked)×Int×Int×za=>(zcg s.1 s.2.1 s.2.2.1 s.2.2.2).run) l default (fun i=>(l,(l.length:Int),(i:Int),p)) (ztz p) false () (by
   simp only[zcg];rw[Tr.rf (by simp),Tr.rl]) (by
   intro i hi h
   simp only[zcg,yy4]
   rw[Tr.rt (by simpa using hi),Tr.rg ⟨by omega,by show (i:Int) < (l.length:Nat);omega⟩,z70 i _ hi,test _ (hp _ (zbu (l:=l) (k:=i) hi default)),h,Tr.rf (show (!true)=false from rfl),Tr.rl,zl (by omega)]) (by
   intro i hi h
   simp only[zcg,yy4]
   rw[Tr.rt (by simpa using hi),Tr.rg ⟨by omega,by show (i:Int) < (l.length:Nat);omega⟩,z70 i _ hi,test _ (hp _ (zbu (l:=l) (k:=i) hi default)),h,Tr.rt (show (!false)=true from rfl),Tr.rl])
 exact this
theorem zfy {p:za} (hf:FitPr 140737488351232 p):zag p=some (zao p):=by
 have hs:=hf.set
 have hq:=hf.queue
 have loop:zik p.Links 0 p=some (if z87 p 0=true then (if z87 p 1=true then .inr p else .inl false) else .inl false):=by
  rw[zik]
  have t0:=z8p hf (c:=0) (by omega)
  have t1:=z8p hf (c:=1) (by omega)
  simp only[Int.ofNat_zero,Nat.zero_add,Int.ofNat_one] at t0 t1
  by_cases h0:z87 p 0=true
  ·rw[if_pos h0] at t0 ⊢
   rw[za1 (s':=(p.Links,((1:Nat):Int),p)) t0]
   by_cases h1:z87 p 1=true
   ·rw[if_pos h1] at t1 ⊢
    rw[za1 (s':=(p.Links,((2:Nat):Int),p)) t1,zbo (r:=.inr p) (by
     show (zcf p.Links 2 p).run=_
     simp only[zcf]
     rw[Tr.rf (by simp),Tr.rl])]
   ·rw[if_neg h1] at t1 ⊢
    rw[zbo (r:=.inl false) t1]
  ·rw[if_neg h0] at t0 ⊢
   rw[zbo (r:=.inl false) t0]
 rw[zag,znm,Tr.rb (ztq p.Stake),Tr.rg (fun _=>⟨by rw[z9t (by omega)];rfl,trivial⟩),z9t (by omega)]
 simp only[yy2]
 have e:((((((!decide (GoodS p.Stake))||(decide (p.Height < 0)))||(decide (p.Height > 1099511627775)))||(decide (p.Time < 0)))||(decide (p.Time > 1099511627776)))||(!zv 1 (-1) p.Set)) = !(decide (GoodS p.Stake)&&decide (zw0 p)&&zv 1 (-1) p.Set):=by
  rw[Bool.eq_iff_iff]
  simp only[Bool.or_eq_true,Bool.not_eq_true',yy8,decide_eq_true_eq,Bool.and_eq_false_iff]
  unfold zw0
  constructor
  ·rintro (((((h | h) | h) | h) | h) | h)
   ·exact .inl (.inl h)
   ·exact .inl (.inr (by omega))
   ·exact .inl (.inr (by omega))
   ·exact .inl (.inr (by omega))
   ·exact .inl (.inr (by omega))
   ·exact .inr h
  ·rintro ((h | h) | h)
   ·exact .inl (.inl (.inl (.inl (.inl h))))
   ·rcases (show p.Height < 0∨p.Height > 1099511627775∨p.Time < 0∨p.Time > 1099511627776 by omega) with k | k | k | k
    ·exact .inl (.inl (.inl (.inl (.inr k))))
    ·exact .inl (.inl (.inl (.inr k)))
    ·exact .inl (.inl (.inr k))
    ·exact .inl (.inr k)
   ·exact .inr h
 rw[e]
 unfold zao
 generalize (decide (GoodS p.Stake)&&decide (zw0 p)&&zv 1 (-1) p.Set)=b
 cases b with
 | false=>rw[Tr.rt (show (!false)=true from rfl),Tr.rl];rfl
 | true =>
  rw[Tr.rf (show (!true)=false from rfl)]
  by_cases h0:z87 p 0=true
  ·rw[if_pos h0] at loop
   by_cases h1:z87 p 1=true
   ·rw[if_pos h1] at loop
    rw[Tr.rj loop,h0,h1]
    have:=zapa (l:=p.Queue) (p:=p) (by omega) hf.ps
    by_cases h2:p.Queue.all (ztz p)=true
    ·rw[if_pos h2] at this
     rw[Tr.rj this,Tr.rl,h2];rfl
    ·rw[if_neg h2] at this
     rw[Tr.ri this,Tr.rl,Bool.eq_false_iff.2 h2];rfl
   ·rw[if_neg h1] at loop
    rw[Tr.ri loop,Tr.rl,h0,Bool.eq_false_iff.2 h1]
    rfl
  ·rw[if_neg h0] at loop
   rw[Tr.ri loop,Tr.rl,Bool.eq_false_iff.2 h0]
   rfl
theorem zaex {l:zcl} (h1:l.Said.length*16≤140737488351232) (h2:l.Due.length*8≤140737488351232):zaj l=some l:=by
 rw[zaj,zqg,Tr.rg (by show (0+l.Said.length)*16≤_;omega),Tr.rg (by show (0+l.Due.length)*8≤_;omega),Tr.rl]
theorem zaey {l:List Asked} {F:(List Asked)×Int×Int×za×za×(List Asked)→Option (((List Asked)×Int×Int×za×za×(List Asked))⊕(za×za×(List Asked)))} {p q:za} (hl:l.length*88≤140737488351232)
  (hend:∀ t,F (l,(l.length:Int),(l.length:Int),p,q,t)=some (.inr (p,q,t)))
  (hstep:∀ (i:Nat) t,i < l.length→t=l.take i→F (l,(l.length:Int),(i:Int),p,q,t)=some (.inl (l,(l.length:Int),((i+1:Nat):Int),p,q,t++[l.getD i default]))) :
  zbp F (l,(l.length:Int),0,p,q,[])=some (p,q,l):=by
 have:=zbx (F:=F) l.length (fun i t=>(l,(l.length:Int),(i:Int),p,q,t)) (fun i t=>t=l.take i) (fun i t=>(p,q,l)) (by
   rintro t rfl
   rw[hend,List.take_length]) (by
   rintro i t hi rfl
   refine .inl ⟨l.take i++[l.getD i default],hstep i _ hi rfl,?_,rfl⟩
   rw[yy0,yy3 hi]
   exact (List.take_append_getElem hi)) 0 [] (Nat.zero_le _) rfl
 exact this
theorem zasi {p:za} (hf:FitPr 140737488351232 p):zl3 p=some p:=by
 have hs:=hf.set
 have hq:=hf.queue
 have turn:∀ (c:Nat),c < 2→∀ q,(zcd (c:Int) p q).run=some (.inl (((c+1:Nat):Int),p,q)):=by
  intro c hc q
  have h1:=hf.told c
  have h2:=hf.done c
  have h3:=hf.said c
  have h4:=hf.due c
  simp only[zcd]
  have hcl:=zaex (l:=zgy p.Links c) h3 h4
  rw[Tr.rt (by simp;omega),Tr.rg ⟨by omega,by omega⟩,Tr.rg (by rw[zp];omega),Tr.rg (by rw[zey];omega),Tr.rg (by rw[hcl];rfl),Tr.rl,hcl,zl (by omega)]
  rcases (show c=0∨c=1 by omega) with rfl | rfl<;>rfl
 rw[zl3,znl,Tr.rb (zww hf.waits),Tr.rg (by rw[zp];omega),Tr.rb (v:=(p,default)) (by
  show zij 0 p default=_
  rw[zij,za1 (s':=(((1:Nat):Int),p,default)) (turn 0 (by omega) _),za1 (s':=(((2:Nat):Int),p,default)) (turn 1 (by omega) _),zbo (by
   show (zcd 2 p default).run=_
   simp only[zcd]
   rw[Tr.rf (by simp),Tr.rl])])]
 simp only[]
 rw[Tr.rb (v:=(p,default,p.Queue)) (by
  rw[zny]
  refine zaey hq (fun t=>?_) (fun i t hi ht=>?_)
  ·simp only[zfk];rw[Tr.rf (by simp),Tr.rl]
  ·obtain ⟨p1,p2⟩:=hf.ps _ (zbu (l:=p.Queue) (k:=i) hi default)
   have htl:t.length≤i:=by rw[ht,List.length_take];omega
   simp only[zfk,yy4]
   rw[Tr.rt (by simpa using hi),Tr.rg ⟨by omega,by show (i:Int) < (p.Queue.length:Nat);omega⟩,Tr.rg (by rw[z1k p1 p2];rfl),Tr.rg (by show (t.length+1)*88≤_;omega),Tr.rl,z1k p1 p2,zl (by omega)]
   rfl),Tr.rl]
theorem zo3 {p:za} (hf:FitPr 140737488351232 p):za0 p=some p:=by
 have hs:=hf.set
 have hq:=hf.queue
 have turn:∀ (c:Nat),c < 2→∀ q,(zbl (c:Int) p q).run=some (.inl (((c+1:Nat):Int),p,q)):=by
  intro c hc q
  have h1:=hf.told c
  have h2:=hf.done c
  have h3:=hf.said c
  have h4:=hf.due c
  simp only[zbl]
  have hcl:=zaex (l:=zgy p.Links c) h3 h4
  rw[Tr.rt (by simp;omega),Tr.rg ⟨by omega,by omega⟩,Tr.rg (by rw[zp];omega),Tr.rg (by rw[zey];omega),Tr.rg (by rw[hcl];rfl),Tr.rl,hcl,zl (by omega)]
  rcases (show c=0∨c=1 by omega) with rfl | rfl<;>rfl
 rw[za0,zkn,Tr.rb (zww hf.waits),Tr.rg (by rw[zp];omega),Tr.rb (v:=(p,default)) (by
  show zgo 0 p default=_
  rw[zgo,za1 (s':=(((1:Nat):Int),p,default)) (turn 0 (by omega) _),za1 (s':=(((2:Nat):Int),p,default)) (turn 1 (by omega) _),zbo (by
   show (zbl 2 p default).run=_
   simp only[zbl]
   rw[Tr.rf (by simp),Tr.rl])])]
 simp only[]
 rw[Tr.rb (v:=(p,default,p.Queue)) (by
  rw[zmc]
  refine zaey hq (fun t=>?_) (fun i t hi ht=>?_)
  ·simp only[zeh];rw[Tr.rf (by simp),Tr.rl]
  ·obtain ⟨p1,p2⟩:=hf.ps _ (zbu (l:=p.Queue) (k:=i) hi default)
   have htl:t.length≤i:=by rw[ht,List.length_take];omega
   simp only[zeh,yy4]
   rw[Tr.rt (by simpa using hi),Tr.rg ⟨by omega,by show (i:Int) < (p.Queue.length:Nat);omega⟩,Tr.rg (by rw[z1k p1 p2];rfl),Tr.rg (by show (t.length+1)*88≤_;omega),Tr.rl,z1k p1 p2,zl (by omega)]
   rfl),Tr.rl]
structure zbj7 (p:za):Prop where
 waits:p.Stake.Waits.length≤9223372036854775807
 set:p.Set.length≤9223372036854775807
 told:∀ c,(p.Links.Told.get c).length≤9223372036854775807
 done:∀ c,(p.Links.Done.get c).length≤9223372036854775807
 said:∀ c,(p.Links.Said.get c).length≤9223372036854775807
 due:∀ c,(p.Links.Due.get c).length≤9223372036854775807
 queue:p.Queue.length≤9223372036854775807
 ps:∀ a,a∈p.Queue→a.P.Set.length≤9223372036854775807∧a.P.Done.length≤9223372036854775807
theorem FitPr.len {R:Nat} {p:za} (h:FitPr R p) (hR:R≤9223372036854775807):zbj7 p :=
 ⟨by have:=h.waits;omega,by have:=h.set;omega,fun c=>by have:=h.told c;omega,fun c=>by have:=h.done c;omega,fun c=>by have:=h.said c;omega,fun c=>by have:=h.due c;omega,by have:=h.queue;omega,
  fun a ha=>by have:=h.ps a ha;omega⟩
theorem zn1 {α:Type} {t e:Tr α}:(Tr.ite (!true) t e).run=e.run:=Tr.rf (show (!true)=false from rfl)
theorem zn2 {α:Type} {t e:Tr α}:(Tr.ite (!false) t e).run=t.run:=Tr.rt (show (!false)=true from rfl)
def newM (x t:Int):Meter:=⟨if x < 5 then 1 else x / 5,IntKind.i64.wrap (t+10)⟩
def zag6 (m:Meter) (x t:Int):Meter:=if m.Next≤t then newM x t else m
def z7u (m:Meter) (n:Int):Meter×Bool:=if m.Left≤0 then (m,false) else (⟨IntKind.i64.wrap (m.Left - n),m.Next⟩,true)
theorem zasj {x t:Int} (hx:i64 x):zt8 x t=some (newM x t):=by
 have h:zmq x=some (if x < 5 then 1 else x / 5):=by
  rw[zmq,zn9,Tr.rg (by decide),Tr.rl]
  unfold i64 at hx
  by_cases h5:x < 5
  ·have:Int.tdiv x 5 < 1:=by
    by_cases h0:0≤x
    ·rw[Int.tdiv_eq_ediv_of_nonneg h0];omega
    ·have:Int.tdiv x 5≤0:=by
      have h1:Int.tdiv (-x) 5 = - Int.tdiv x 5:=Int.neg_tdiv x 5
      rw[Int.tdiv_eq_ediv_of_nonneg (by omega)] at h1
      omega
     omega
   have hl : -9223372036854775808≤Int.tdiv x 5:=by
    by_cases h0:0≤x
    ·rw[Int.tdiv_eq_ediv_of_nonneg h0];omega
    ·have h1:Int.tdiv (-x) 5 = - Int.tdiv x 5:=Int.neg_tdiv x 5
     rw[Int.tdiv_eq_ediv_of_nonneg (by omega)] at h1
     omega
   rw[zf (by omega) (by omega),if_neg (by omega),if_pos h5]
  ·rw[Int.tdiv_eq_ediv_of_nonneg (by omega),zf (by omega) (by omega),if_neg h5]
   split
   ·rfl
   ·congr 1;omega
 rw[zt8,z3m,Tr.rb h,Tr.rl];rfl
theorem zaez {x t:Int} (hx:i64 x):zms x t=some (newM x t):=by
 have h:zqe x=some (if x < 5 then 1 else x / 5):=by
  rw[zqe,zsg]
  unfold i64 at hx
  by_cases h5:x < 5
  ·rw[Tr.rt (by simpa using h5),Tr.rl,if_pos h5]
  ·rw[Tr.rf (by simpa using h5),Tr.rg (by decide),Tr.rl,if_neg h5,Int.tdiv_eq_ediv_of_nonneg (by omega),zf (by omega) (by omega)]
 rw[zms,zu4,Tr.rb h,Tr.rl];rfl
theorem zand {m:Meter} {x t:Int} (hx:i64 x):zrp m x t=some (zag6 m x t):=by
 rw[zrp,zzu]
 unfold zag6
 by_cases h:m.Next≤t
 ·rw[Tr.rt (by simpa using h),Tr.rb (zasj hx),Tr.rl,if_pos h]
 ·rw[Tr.rf (by simpa using h),Tr.rl,if_neg h]
theorem zab4 {m:Meter} {x t:Int} (hx:i64 x):zld m x t=some (zag6 m x t):=by
 rw[zld,zsh]
 unfold zag6
 by_cases h:m.Next≤t
 ·rw[Tr.rf (by simpa using h),Tr.rb (zaez hx),Tr.rl,if_pos h]
 ·rw[Tr.rt (by simpa using h),Tr.rl,if_neg h]
theorem zane {m:Meter} {n:Int}:zjy m n=some (z7u m n):=by
 rw[zjy,zzv]
 unfold z7u
 by_cases h:m.Left≤0
 ·rw[Tr.rt (by simpa using h),Tr.rl,if_pos h]
 ·rw[Tr.rf (by simpa using h),Tr.rl,if_neg h]
theorem zalg {m:Meter} {n:Int}:zqf m n=some (z7u m n):=by
 rw[zqf,zsi]
 unfold z7u
 by_cases h:m.Left≤0
 ·rw[Tr.rt (by simp;omega),Tr.rl,if_pos h]
 ·rw[Tr.rf (by simp;omega),Tr.rl,if_neg h]
def zapb:za:=⟨0,0,newS,[],default,newM 0 0,[]⟩
theorem zapc:zsz=some zapb:=by
 rw[zsz,zvj,Tr.rb zak9,Tr.rb (zasj (by unfold i64;omega)),Tr.rl];rfl
theorem zag7:znn=some zapb:=by
 rw[znn,zos,Tr.rb zadh,Tr.rb (zaez (by unfold i64;omega)),Tr.rl];rfl
def zer (p:za) (d v n:Int):za×Int :=
 if zao p=true then (if (zez p.Stake d v n).2≠0 then (p,(zez p.Stake d v n).2) else ({ p with Stake:=(zez p.Stake d v n).1 },0)) else (p,2)
theorem zab5 {p:za} (hf:FitPr 140737488351232 p) {d v n:Int} (hn:n≤9223372036854775807):zkh p d v n=some (zer p d v n):=by
 rw[zkh,zlw,Tr.rb (zl7 hf)]
 unfold zer
 by_cases hg:zao p=true
 ·rw[hg,zn1,if_pos rfl,Tr.rb (zak3 hn)]
  by_cases h0:(zez p.Stake d v n).2≠0
  ·rw[Tr.rt (by simpa using h0),Tr.rl,if_pos h0]
  ·rw[Tr.rf (by simpa using h0),Tr.rl,if_neg h0]
 ·rw[Bool.eq_false_iff.2 hg,zn2,Tr.rl];rfl
theorem z6g {p:za} (hf:FitPr 140737488351232 p) {d v n:Int} (hn:n≤9223372036854775807):zbm p d v n=some (zer p d v n):=by
 rw[zbm,zim,Tr.rb (zfy hf)]
 unfold zer
 by_cases hg:zao p=true
 ·rw[hg,zn1,if_pos rfl,Tr.rb (zadf hn)]
  by_cases h0:(zez p.Stake d v n).2≠0
  ·rw[Tr.rt (by simpa using h0),Tr.rl,if_pos h0]
  ·rw[Tr.rf (by simpa using h0),Tr.rb (zasi hf),Tr.rl,if_neg h0]
 ·rw[Bool.eq_false_iff.2 hg,zn2,Tr.rl];rfl
def zadi (p:za) (now:Int):Wait:=⟨0,0,0,0,p.Height+1,now+20,if p.Links.On.x0=true then p.Height+1 else 0,if p.Links.On.x1=true then p.Height+1 else 0⟩
def zaje (L:Links):Links:={ L with Fresh:=⟨L.Fresh.x0||L.On.x0,L.Fresh.x1||L.On.x1⟩ }
def zci (p:za) (d v k now:Int):za×Int :=
 if zao p=true∧0≤now∧now≤1099511627776 then
  (if (zbr p.Stake d v k (zadi p now)).2≠0 then (p,(zbr p.Stake d v k (zadi p now)).2) else ({ p with Stake:=(zbr p.Stake d v k (zadi p now)).1,Links:=zaje p.Links },0))
 else (p,2)
theorem zd7 {p:za} (h:zao p=true):GoodS p.Stake∧zw0 p∧zv 1 (-1) p.Set=true∧z87 p 0=true∧z87 p 1=true∧p.Queue.all (ztz p)=true:=by
 unfold zao at h
 simp only[yy7,decide_eq_true_eq] at h
 exact ⟨h.1.1.1.1.1,h.1.1.1.1.2,h.1.1.1.2,h.1.1.2,h.1.2,h.2⟩
theorem z1s {p:za} {now:Int}:(((!zao p)||(decide (now < 0)))||(decide (now > 1099511627776))) = !decide (zao p=true∧0≤now∧now≤1099511627776):=by
 rw[Bool.eq_iff_iff]
 simp only[Bool.or_eq_true,Bool.not_eq_true',decide_eq_true_eq,yy8]
 cases zao p<;>simp<;>omega
theorem z7v {p:za} (hf:FitPr 140737488351232 p) {d v k now:Int} (hk:k≤9223372036854775807):zbw p d v k now=some (zci p d v k now):=by
 rw[zbw,zjd,Tr.rb (zl7 hf)]
 unfold zci
 by_cases hg:zao p=true∧0≤now∧now≤1099511627776
 ·rw[if_pos hg]
  obtain ⟨g1,g2,-⟩:=zd7 hg.1
  unfold zw0 at g2
  have turn:∀ (c:Nat),c < 2→∀ (q:za) (w:Wait),(zbd d v k c p q w).run=some (.inl (d,v,k,((c+1:Nat):Int),p,q,if p.Links.On.get c=true then { w with h0:=if (c:Int)=0 then p.Height+1 else w.h0,h1:=if (c:Int)=1 then p.Height+1 else w.h1 } else w)):=by
   intro c hc q w
   simp only[zbd]
   rw[Tr.rt (by simp;omega),Tr.rg ⟨by omega,by omega⟩]
   by_cases ho:p.Links.On.get c=true
   ·rw[Tr.rt ho,Tr.rg ⟨by omega,by omega⟩,Tr.rl,zl (by omega),if_pos ho,zf (by omega) (by omega)]
   ·rw[Tr.rf (Bool.eq_false_iff.2 ho),Tr.rl,zl (by omega),if_neg ho]
  have hw:zfv d v k 0 p default ⟨0,0,0,0,p.Height+1,now+20,0,0⟩=some (d,v,k,p,default,zadi p now):=by
   rw[zfv,za1 (s':=(d,v,k,((1:Nat):Int),p,_,_)) (turn 0 (by omega) _ _),za1 (s':=(d,v,k,((2:Nat):Int),p,_,_)) (turn 1 (by omega) _ _),zbo (by
    show (zbd d v k 2 p _ _).run=_
    simp only[zbd]
    rw[Tr.rf (by simp),Tr.rl])]
   have e0:p.Links.On.get ((0:Nat):Int)=p.Links.On.x0:=rfl
   have e1:p.Links.On.get ((1:Nat):Int)=p.Links.On.x1:=rfl
   rw[e0,e1]
   unfold zadi
   cases p.Links.On.x0<;>cases p.Links.On.x1<;>rfl
  rw[Tr.rf (by rw[z1s,decide_eq_true hg];rfl),zf (x:=p.Height+1) (by omega) (by omega),zf (x:=now+20) (by omega) (by omega),Tr.rb hw]
  simp only[]
  rw[Tr.rb (zagx hk)]
  by_cases h0:(zbr p.Stake d v k (zadi p now)).2≠0
  ·rw[Tr.rt (by simpa using h0),Tr.rl,if_pos h0]
  ·rw[Tr.rf (by simpa using h0),if_neg h0]
   have turn2:∀ (c:Nat),c < 2→∀ (p q:za),(zbe c p q).run=some (.inl (((c+1:Nat):Int),{ p with Links:={ p.Links with Fresh:=p.Links.Fresh.set c (p.Links.Fresh.get c||p.Links.On.get c) } },q)):=by
    intro c hc p q
    simp only[zbe]
    rw[Tr.rt (by simp;omega),Tr.rg ⟨by omega,by omega⟩,Tr.rg (fun _=>⟨⟨by omega,by omega⟩,trivial⟩),Tr.rg ⟨by omega,by omega⟩,Tr.rl,zl (by omega)]
   rw[Tr.rb (v:=({ p with Stake:=(zbr p.Stake d v k (zadi p now)).1,Links:=zaje p.Links },default)) (by
    rw[zk3,za1 (s':=(((1:Nat):Int),_,_)) (turn2 0 (by omega) _ _),za1 (s':=(((2:Nat):Int),_,_)) (turn2 1 (by omega) _ _),zbo (by
     show (zbe 2 _ _).run=_
     simp only[zbe]
     rw[Tr.rf (by simp),Tr.rl])]
    rfl),Tr.rl]
 ·rw[if_neg hg,Tr.rt (by rw[z1s,decide_eq_false hg];rfl),Tr.rl]
theorem z10 {p:za} (hf:FitPr 140737488351232 p) {d v k now:Int} (hk:k≤9223372036854775807):za7 p d v k now=some (zci p d v k now):=by
 rw[za7,zgp,Tr.rb (zfy hf)]
 unfold zci
 by_cases hg:zao p=true∧0≤now∧now≤1099511627776
 ·rw[if_pos hg]
  obtain ⟨g1,g2,-⟩:=zd7 hg.1
  unfold zw0 at g2
  have turn:∀ (c:Nat),c < 2→∀ (q r:za) (w:Wait),(zay d v k c p q r w).run=some (.inl (d,v,k,((c+1:Nat):Int),p,q,if r.Links.On.get c=true then { r with Links:={ r.Links with Fresh:=r.Links.Fresh.set c true } } else r,if r.Links.On.get c=true then { w with h0:=if (c:Int)=0 then p.Height+1 else w.h0,h1:=if (c:Int)=1 then p.Height+1 else w.h1 } else w)):=by
   intro c hc q r w
   simp only[zay]
   rw[Tr.rt (by simp;omega),Tr.rg ⟨by omega,by omega⟩]
   by_cases ho:r.Links.On.get c=true
   ·rw[Tr.rt ho,Tr.rg ⟨by omega,by omega⟩,Tr.rg ⟨by omega,by omega⟩,Tr.rl,zl (by omega),if_pos ho,if_pos ho,zf (by omega) (by omega)]
   ·rw[Tr.rf (Bool.eq_false_iff.2 ho),Tr.rl,zl (by omega),if_neg ho,if_neg ho]
  have hw:zei d v k 0 p default p ⟨0,0,0,0,p.Height+1,now+20,0,0⟩=some (d,v,k,p,default,{ p with Links:=zaje p.Links },zadi p now):=by
   rw[zei,za1 (s':=(d,v,k,((1:Nat):Int),p,_,_,_)) (turn 0 (by omega) _ _ _),za1 (s':=(d,v,k,((2:Nat):Int),p,_,_,_)) (turn 1 (by omega) _ _ _),zbo (by
    show (zay d v k 2 p _ _ _).run=_
    simp only[zay]
    rw[Tr.rf (by simp),Tr.rl])]
   obtain ⟨H,T,S,P,L,M,Q⟩:=p
   obtain ⟨on,g1,g2,g3,fr,g4,g5,g6,g7,g8,g9,g10,g11,g12⟩:=L
   obtain ⟨o0,o1⟩:=on
   obtain ⟨f0,f1⟩:=fr
   cases o0<;>cases o1<;>cases f0<;>cases f1<;>rfl
  rw[Tr.rf (by rw[z1s,decide_eq_true hg];rfl),Tr.rb (zo3 hf),zf (x:=p.Height+1) (by omega) (by omega),zf (x:=now+20) (by omega) (by omega),Tr.rb hw]
  simp only[]
  rw[Tr.rb (z86 hk)]
  by_cases h0:(zbr p.Stake d v k (zadi p now)).2≠0
  ·rw[Tr.rt (by simpa using h0),Tr.rl,if_pos h0]
  ·rw[Tr.rf (by simpa using h0),if_neg h0,Tr.rl]
 ·rw[if_neg hg,Tr.rt (by rw[z1s,decide_eq_false hg];rfl),Tr.rl]
theorem z6h:∀ {l:List Int} {p:Int},z8 p l=true→(∀ q,q∈l→p < q∧q≤5)∧l.Pairwise (· < ·)
 | [],p,h=>⟨by simp,.nil⟩
 | q::l,p,h=>by
  simp only[z8,yy7,decide_eq_true_eq] at h
  obtain ⟨h1,h2⟩:=z6h h.2
  refine ⟨fun x hx=>?_,List.pairwise_cons.2 ⟨fun x hx=>(h1 x hx).1,h2⟩⟩
  rcases List.mem_cons.1 hx with rfl | hx
  ·exact h.1
  ·have:=h1 x hx;omega
theorem zajf:∀ {l:List Int} {p:Int},(∀ q,q∈l→p < q∧q≤5)→l.Pairwise (· < ·)→z8 p l=true
 | [],p,_,_=>rfl
 | q::l,p,h1,h2=>by
  have hq:=h1 q (List.mem_cons_self ..)
  rw[List.pairwise_cons] at h2
  simp only[z8,yy7,decide_eq_true_eq]
  exact ⟨hq,zajf (fun x hx=>⟨h2.1 x hx,(h1 x (List.mem_cons_of_mem _ hx)).2⟩) h2.2⟩
theorem zalh:∀ {l m:List Int},l.Pairwise (· < ·)→m.Pairwise (· < ·)→(∀ p,p∈l↔p∈m)→l=m
 | [],[],_,_,_=>rfl
 | [],b::m,_,_,h=>by have:=(h b).2 (List.mem_cons_self ..);cases this
 | a::l,[],_,_,h=>by have:=(h a).1 (List.mem_cons_self ..);cases this
 | a::l,b::m,hl,hm,h=>by
  rw[List.pairwise_cons] at hl hm
  have hab:a=b:=by
   rcases List.mem_cons.1 ((h a).1 (List.mem_cons_self ..)) with h1 | h1
   ·exact h1
   ·rcases List.mem_cons.1 ((h b).2 (List.mem_cons_self ..)) with h2 | h2
    ·exact h2.symm
    ·have k1:=hm.1 a h1
     have k2:=hl.1 b h2
     omega
  subst hab
  congr 1
  refine zalh hl.2 hm.2 fun p=>⟨fun hp=>?_,fun hp=>?_⟩
  ·rcases List.mem_cons.1 ((h p).1 (List.mem_cons_of_mem _ hp)) with h1 | h1
   ·have:=hl.1 p hp;omega
   ·exact h1
  ·rcases List.mem_cons.1 ((h p).2 (List.mem_cons_of_mem _ hp)) with h1 | h1
   ·have:=hm.1 p hp;omega
   ·exact h1
theorem za36 (a b:Int):zs7 a b=some (decide (a < b)):=by
 have h:∀ x,zhv x=some false:=fun x=>by rw[zhv,zs6,Tr.rl];simp
 rw[zs7,zvl,Tr.rb (h a),Tr.rg (fun e=>by cases e),Tr.rl]
 simp
theorem zanf (x:Int):zb7 x=some false:=by rw[zb7,znc,Tr.rl];simp
theorem zali {l:List Int} (h:l.Pairwise (· < ·)) {x y:Nat} (hxy:x < y) (hy:y < l.length):l.getD x 0 < l.getD y 0:=by
 have:=List.pairwise_iff_getElem.1 h x y (by omega) hy hxy
 rw[yy0,yy0,yy3 hy,yy3 (show x < l.length by omega)]
 exact this
def zajg (l:List Int) (v k:Int):Prop:=0≤k∧k≤l.length∧(∀ x:Nat,(x:Int) < k→l.getD x 0 < v)∧(∀ x:Nat,k≤x→x < l.length→v≤l.getD x 0)
theorem zask {l:List Int} (hs:l.Pairwise (· < ·)) (hl:l.length≤1000) (v:Int) :
  ∃ k,zhw l v l.length 0 l.length=some (l,v,(l.length:Int),k)∧zajg l v k:=by
 have:=ziv (F:=fun s:(List Int)×Int×Int×Int×Int=>(zcj s.1 s.2.1 s.2.2.1 s.2.2.2.1 s.2.2.2.2).run)
  (fun s=>s.1=l∧s.2.1=v∧s.2.2.1=l.length∧(0≤s.2.2.2.1∧s.2.2.2.1≤s.2.2.2.2∧s.2.2.2.2≤l.length)∧(∀ x:Nat,(x:Int) < s.2.2.2.1→l.getD x 0 < v)∧(∀ x:Nat,s.2.2.2.2≤x→x < l.length→v≤l.getD x 0))
  (fun s=>(s.2.2.2.2 - s.2.2.2.1).toNat) (fun s r=>∃ k,r=(l,v,(l.length:Int),k)∧zajg l v k) ?_ (l,v,(l.length:Int),0,(l.length:Int)) ⟨rfl,rfl,rfl,⟨by simp,by simp,by simp⟩,by intro x hx;simp only[] at hx;omega,by intro x hx h2;simp only[] at hx;omega⟩
 ·obtain ⟨r,h1,k,rfl,h3⟩:=this
  exact ⟨k,h1,h3⟩
 ·rintro ⟨x0,x1,x2,i,j⟩ ⟨h1,h2,h3,⟨h4,h5,h6⟩,h7,h8⟩
  simp only at h1 h2 h3 h4 h5 h6 h7 h8
  rw[h1,h2,h3] at *
  simp only[zcj]
  by_cases hc:i < j
  ·have hm:IntKind.i64.wrap (Int.fdiv (IntKind.u64.wrap (IntKind.i64.wrap (i+j))) (2 ^ 1))=(i+j) / 2:=by
    rw[zf (x:=i+j) (by omega) (by omega),zard (by omega) (by omega),Int.fdiv_eq_ediv_of_nonneg _ (by decide),zf (by omega) (by omega)]
    rfl
   rw[hm]
   generalize hmm:(i+j) / 2=m
   have m1:i≤m:=by omega
   have m2:m < j:=by omega
   rw[Tr.rt (by simpa using hc),Tr.rg (by decide),Tr.rg ⟨by omega,by show m < (l.length:Nat);omega⟩,Tr.rb (za36 _ _)]
   by_cases hlt:l.getD m.toNat 0 < v
   ·refine .inl ⟨(l,v,(l.length:Int),m+1,j),by rw[Tr.rt (by simpa using hlt),Tr.rl,zf (by omega) (by omega)],⟨rfl,rfl,rfl,⟨by simp only[];omega,by simp only[];omega,by simp only[];omega⟩,?_,h8⟩,by simp only[];omega,fun r hr=>hr⟩
    intro x hx
    simp only[] at hx
    by_cases hxm:x=m.toNat
    ·rw[hxm];exact hlt
    ·have:=zali hs (x:=x) (y:=m.toNat) (by omega) (by omega)
     omega
   ·refine .inl ⟨(l,v,(l.length:Int),i,m),by rw[Tr.rf (by simpa using hlt),Tr.rl],⟨rfl,rfl,rfl,⟨by simp only[];omega,by simp only[];omega,by simp only[];omega⟩,h7,?_⟩,by simp only[];omega,fun r hr=>hr⟩
    intro x hx hx2
    simp only[] at hx
    by_cases hxm:x=m.toNat
    ·rw[hxm];omega
    ·have:=zali hs (x:=m.toNat) (y:=x) (by omega) hx2
     omega
  ·refine .inr ⟨(l,v,(l.length:Int),i),by rw[Tr.rf (by simpa using hc),Tr.rl],i,rfl,h4,by omega,h7,fun x hx=>h8 x (by omega)⟩
theorem zasl {l:List Int} (hs:l.Pairwise (· < ·)) (hl:l.length≤1000) (v:Int):∃ k,zx l v=some (k,decide (v∈l))∧zajg l v k:=by
 obtain ⟨k,h1,h2⟩:=zask hs hl v
 refine ⟨k,?_,h2⟩
 obtain ⟨k0,k1,k2,k3⟩:=h2
 have hin:decide (k < (l.length:Int))=true→(0:Int)≤k∧k < ((Sl.len (.ints l):Nat):Int):=fun h=>⟨k0,by simpa[Sl.len] using h⟩
 rw[zx,zfw,Tr.rb h1]
 simp only[]
 rw[Tr.rg (fun h=>⟨hin h,trivial⟩),Tr.rg (fun _ h=>⟨hin h,trivial⟩),Tr.rg (fun _ _=>⟨by rw[zanf];rfl,trivial⟩),Tr.rg (fun _ _ _=>⟨by rw[zanf];rfl,trivial⟩),Tr.rl,zanf,zanf]
 simp only[yy2,Bool.and_false,Bool.or_false]
 congr 2
 rw[Bool.eq_iff_iff]
 simp only[yy7,decide_eq_true_eq,beq_iff_eq]
 constructor
 ·rintro ⟨hk,he⟩
  rw[← he]
  exact zbu (by omega) 0
 ·intro hv
  obtain ⟨x,hx,he⟩:=List.getElem_of_mem hv
  have hg:l.getD x 0=v:=by rw[yy0,yy3 hx];exact he
  have hkx:k≤x:=by
   rcases Int.lt_or_le (x:Int) k with h | h
   ·have:=k2 x h;omega
   ·exact h
  refine ⟨by omega,?_⟩
  have h3:=k3 k.toNat (by omega) (by omega)
  by_cases hxk:x=k.toNat
  ·rw[← hxk];exact hg
  ·have:=zali hs (x:=k.toNat) (y:=x) (by omega) hx
   omega
def insD (l:List Int) (v:Int):List Int:=((List.range 6).map (fun (u:Nat)=>(u:Int))).filter (fun u=>u==v||decide (u∈l))
theorem range_pw:((List.range 6).map (fun (u:Nat)=>(u:Int))).Pairwise (· < ·):=by decide
theorem zalk (l:List Int) (v:Int):(insD l v).Pairwise (· < ·):=range_pw.sublist List.filter_sublist
theorem zapd {u:Int}:u∈(List.range 6).map (fun (u:Nat)=>(u:Int))↔0≤u∧u≤5:=by
 rw[List.mem_map]
 constructor
 ·rintro ⟨x,hx,rfl⟩;rw[List.mem_range] at hx;omega
 ·intro h;exact ⟨u.toNat,by rw[List.mem_range];omega,by omega⟩
theorem mem_insD {l:List Int} {v u:Int}:u∈insD l v↔(0≤u∧u≤5)∧(u=v∨u∈l):=by
 unfold insD;rw[List.mem_filter,zapd];simp
theorem zasm (l:List Int) (v:Int):z8 (-1) (insD l v)=true:=zajf (fun q hq=>by have:=(mem_insD.1 hq).1;omega) (zalk l v)
theorem za37 {l:List Int} {v:Int} (h:z8 (-1) l=true) (hv:v∈l):insD l v=l:=by
 obtain ⟨h1,h2⟩:=z6h h
 refine zalh (zalk l v) h2 fun u=>?_
 rw[mem_insD]
 constructor
 ·rintro ⟨_,rfl | h⟩<;>assumption
 ·intro hu;have:=h1 u hu;exact ⟨by omega,.inr hu⟩
theorem zax3 {l:List Int} {v k:Int} (h:z8 (-1) l=true) (hv:v∉l) (hv5:0≤v∧v≤5) (hk:zajg l v k):l.take k.toNat++[v]++l.drop k.toNat=insD l v:=by
 obtain ⟨h1,h2⟩:=z6h h
 obtain ⟨k0,k1,k2,k3⟩:=hk
 have htake:∀ x,x∈l.take k.toNat→x < v:=by
  intro x hx
  obtain ⟨i,hi,rfl⟩:=List.getElem_of_mem hx
  rw[List.length_take] at hi
  have:=k2 i (by omega)
  rw[yy0,yy3 (by omega)] at this
  rw[List.getElem_take];exact this
 have hdrop:∀ x,x∈l.drop k.toNat→v < x:=by
  intro x hx
  have hm:x∈l:=List.mem_of_mem_drop hx
  obtain ⟨i,hi,rfl⟩:=List.getElem_of_mem hx
  rw[List.length_drop] at hi
  have:=k3 (k.toNat+i) (by omega) (by omega)
  rw[yy0,yy3 (by omega)] at this
  rw[List.getElem_drop] at hm ⊢
  have hne:l[k.toNat+i]≠v:=fun e=>hv (e ▸ hm)
  have h3:v≤l[k.toNat+i]:=this
  omega
 refine zalh ?_ (zalk l v) fun u=>?_
 ·rw[List.append_assoc,List.pairwise_append]
  refine ⟨h2.sublist (List.take_sublist _ _),?_,?_⟩
  ·rw[List.singleton_append,List.pairwise_cons]
   exact ⟨hdrop,h2.sublist (List.drop_sublist _ _)⟩
  ·intro a ha b hb
   rw[List.singleton_append] at hb
   rcases List.mem_cons.1 hb with rfl | hb
   ·exact htake a ha
   ·have:=htake a ha;have:=hdrop b hb;omega
 ·rw[mem_insD,List.append_assoc,List.mem_append,List.singleton_append,List.mem_cons]
  constructor
  ·rintro (hu | rfl | hu)
   ·have hm:=List.mem_of_mem_take hu
    have:=h1 u hm
    exact ⟨by omega,.inr hm⟩
   ·exact ⟨hv5,.inl rfl⟩
   ·have hm:=List.mem_of_mem_drop hu
    have:=h1 u hm
    exact ⟨by omega,.inr hm⟩
  ·rintro ⟨_,rfl | hu⟩
   ·exact .inr (.inl rfl)
   ·rw[← List.take_append_drop k.toNat l,List.mem_append] at hu
    exact hu.imp id .inr
def ztr (p:za) (v:Int):Int:=if (IntKind.i64.wrap (Int.tdiv (p.Stake.Validators.Tokens.get v) 100)) > 1 then (IntKind.i64.wrap (Int.tdiv (p.Stake.Validators.Tokens.get v) 100)) else 1
def zasn (p:za) (c v:Int):za:={ p with Links:={ p.Links with Done:=p.Links.Done.set c (insD (p.Links.Done.get c) v) } }
def zbj8 (p:za) (a:Asked):Int:=if (p.Links.Base.get a.C) > a.P.Id then (p.Links.Base.get a.C) else a.P.Id
def z11 (p:za) (a:Asked):za×Bool :=
 if a.P.Kind=2 then ({ p with Stake:=zlk p.Stake a.C a.P.Id },true)
 else if a.P.Kind=4 then (if p.Stake.Validators.Dead.get a.P.V=true then (p,true) else ({ p with Stake:=(zcx (zjr p.Stake a.P.V (zbj8 p a) 50).1 a.P.V 2).1 },true))
 else if p.Stake.Validators.Jailed.get a.P.V=true then (zasn p a.C a.P.V,true)
 else if (z7u p.Meter (ztr p a.P.V)).2=true then (zasn { p with Stake:=(zcx p.Stake a.P.V 0).1,Meter:=(z7u p.Meter (ztr p a.P.V)).1 } a.C a.P.V,true)
 else (p,false)
structure zajh (p:za) (a:Asked):Prop where
 v:0≤a.P.V∧a.P.V≤5
 c:0≤a.C∧a.C < 2
 k:a.P.Kind=2∨a.P.Kind=3∨a.P.Kind=4
 w:p.Stake.Waits.length*64≤140737488351232
 d:z8 (-1) (p.Links.Done.get a.C)=true
theorem zts {α:Type} (a:A2 α) {c:Int} (hc:0≤c∧c < 2):a.set c (a.get c)=a:=by
 rcases (show c=0∨c=1 by omega) with rfl | rfl<;>rfl
theorem z1t {l:List Int} (h:z8 (-1) l=true):l.length≤6:=by
 have:=zwr h (by omega);omega
theorem zaso {p:za} {a:Asked} (hf:zajh p a) (hv:a.P.V∈p.Links.Done.get a.C):zasn p a.C a.P.V=p:=by
 unfold zasn
 rw[za37 hf.d hv,zts _ hf.c]
theorem zasp {l:List Int} {k v:Int} (hl:l.length≤6) (hk:zajg l v k):zcz l k [v]=some (l.take k.toNat++[v]++l.drop k.toNat):=by
 unfold zcz insP
 rw[if_pos ⟨hk.1,hk.2.1,by simp,by simp;omega⟩]
theorem za38 {p:za} {a:Asked} (hf:zajh p a):zqs a p=some ((z11 p a).2,(z11 p a).1):=by
 obtain ⟨hv,hc,hk,hw,hd⟩:=hf
 have hl:=z1t hd
 obtain ⟨pk,hs,hpl⟩:=zasl (z6h hd).2 (by omega) a.P.V
 have hcl:=zaiq (l:=p.Links.Done.get a.C) (by omega)
 have hin:=zasp hl hpl
 have hmem:(!decide (a.P.V∈p.Links.Done.get a.C))=true→(p.Links.Done.get a.C).take pk.toNat++[a.P.V]++(p.Links.Done.get a.C).drop pk.toNat=insD (p.Links.Done.get a.C) a.P.V:=by
  intro h
  exact zax3 hd (by simpa using h) hv hpl
 rw[zqs,zs8,Tr.rg ⟨by omega,by omega⟩,Tr.rg hc]
 unfold z11
 by_cases k2:a.P.Kind=2
 ·rw[Tr.rt (by simpa using k2),Tr.rg (by rw[z7q hw];rfl),Tr.rl,z7q hw,if_pos k2];rfl
 ·rw[Tr.rf (by simpa using k2),if_neg k2]
  by_cases k4:a.P.Kind=4
  ·rw[if_pos k4,Tr.rf (by rw[k4];decide),Tr.rt (by simpa using k4)]
   by_cases hdd:p.Stake.Validators.Dead.get a.P.V=true
   ·rw[if_pos hdd,hdd,zn1,Tr.rl]
   ·rw[if_neg hdd,Bool.eq_false_iff.2 hdd,zn2,Tr.rg (by rw[zagz];rfl),zagz]
    simp only[yy2]
    rw[Tr.rg (by rw[zak5];rfl),Tr.rl,zak5];rfl
  ·have k3:a.P.Kind=3:=by omega
   rw[if_neg k4,Tr.rt (by simpa using k3)]
   by_cases hj:p.Stake.Validators.Jailed.get a.P.V=true
   ·rw[if_pos hj,hj,zn1,Tr.rg (by rw[hs];rfl),hs]
    simp only[yy2]
    by_cases hm:a.P.V∈p.Links.Done.get a.C
    ·rw[decide_eq_true hm,zn1,Tr.rl,zaso ⟨hv,hc,hk,hw,hd⟩ hm]
    ·rw[decide_eq_false hm,zn2,Tr.rg (by rw[hcl];rfl),hcl]
     simp only[yy2]
     rw[Tr.rg (by rw[hin];rfl),Tr.rl,hin,yy2,hmem (by simpa using hm)]
     rfl
   ·rw[if_neg hj,Bool.eq_false_iff.2 hj,zn2,Tr.rg (by decide),Tr.rg (by rw[zane];rfl),zane]
    simp only[yy2]
    rw[show (if (IntKind.i64.wrap (Int.tdiv (p.Stake.Validators.Tokens.get a.P.V) 100)) > 1 then (IntKind.i64.wrap (Int.tdiv (p.Stake.Validators.Tokens.get a.P.V) 100)) else 1)=ztr p a.P.V from rfl]
    by_cases ht:(z7u p.Meter (ztr p a.P.V)).2=true
    ·rw[if_pos ht,ht,zn1,Tr.rg (by rw[zarw];rfl),Tr.rg (by rw[hs];rfl),hs,zarw]
     simp only[yy2]
     by_cases hm:a.P.V∈p.Links.Done.get a.C
     ·rw[decide_eq_true hm,zn1,Tr.rl]
      have:=zaso (p:={ p with Stake:=(zcx p.Stake a.P.V 0).1,Meter:=(z7u p.Meter (ztr p a.P.V)).1 }) (a:=a) ⟨hv,hc,hk,by show (zcx p.Stake a.P.V 0).1.Waits.length*64≤_;rw[zai5];exact hw,hd⟩ hm
      rw[this]
     ·rw[decide_eq_false hm,zn2,Tr.rg (by rw[hcl];rfl),hcl]
      simp only[yy2]
      rw[Tr.rg (by rw[hin];rfl),Tr.rl,hin,yy2,hmem (by simpa using hm)]
      rfl
    ·rw[if_neg ht,Bool.eq_false_iff.2 ht,zn2,Tr.rl]
theorem zaji {F:Int×Int×za×Asked×za×(List Int)→Option ((Int×Int×za×Asked×za×(List Int))⊕(za×Asked×za×(List Int)))} {p q:za} {a:Asked} {l:List Int} {v:Int}
  (hend:∀ t,F (v,6,p,a,q,t)=some (.inr (p,a,q,t)))
  (hstep:∀ (u:Nat) t,u < 6→t.length≤6→F (v,(u:Int),p,a,q,t)=some (.inl (v,((u+1:Nat):Int),p,a,q,t++(if ((u:Int)==v||decide ((u:Int)∈l))=true then [(u:Int)] else [])))) :
  zbp F (v,0,p,a,q,[])=some (p,a,q,insD l v):=by
 have hr:∀ i,((List.range (i+1)).map (fun (u:Nat)=>(u:Int))).filter (fun u=>u==v||decide (u∈l))=((List.range i).map (fun (u:Nat)=>(u:Int))).filter (fun u=>u==v||decide (u∈l))++(if ((i:Int)==v||decide ((i:Int)∈l))=true then [(i:Int)] else []):=by
  intro i
  rw[List.range_succ,List.map_append,List.filter_append]
  congr 1
  rw[List.map_cons,List.map_nil,List.filter_cons,List.filter_nil]
 have:=zbx (F:=F) 6 (fun i t=>(v,(i:Int),p,a,q,t)) (fun i t=>t=((List.range i).map (fun (u:Nat)=>(u:Int))).filter (fun u=>u==v||decide (u∈l))) (fun i t=>(p,a,q,insD l v)) (by
   rintro t rfl
   exact hend _) (by
   rintro i t hi rfl
   refine .inl ⟨_,hstep i _ hi (Nat.le_trans (List.length_filter_le _ _) (by simp;omega)),?_,rfl⟩
   rw[hr i]) 0 [] (by omega) rfl
 exact this
theorem zang {F:Int×Int×Bool×Int×(List Int)×Int×Int×za×Asked×za×(List Int)→Option ((Int×Int×Bool×Int×(List Int)×Int×Int×za×Asked×za×(List Int))⊕(Int×Int×Bool×Int×za×Asked×za×(List Int)))}
  {x0 x1 x3:Int} {l:List Int} {p q:za} {a:Asked} {t:List Int} (hl:l.length≤6)
  (hend:∀ b,F (x0,x1,b,x3,l,(l.length:Int),(l.length:Int),p,a,q,t)=some (.inr (x0,x1,b,x3,p,a,q,t)))
  (hstep:∀ (i:Nat) b,i < l.length→F (x0,x1,b,x3,l,(l.length:Int),(i:Int),p,a,q,t)=some (.inl (x0,x1,b||(l.getD i 0==x1),x3,l,(l.length:Int),((i+1:Nat):Int),p,a,q,t))) (b:Bool) :
  zbp F (x0,x1,b,x3,l,(l.length:Int),0,p,a,q,t)=some (x0,x1,b||decide (x1∈l),x3,p,a,q,t):=by
 have:=zbx (F:=F) l.length (fun i b=>(x0,x1,b,x3,l,(l.length:Int),(i:Int),p,a,q,t)) (fun _ _=>True) (fun i b=>(x0,x1,b||decide (x1∈l.drop i),x3,p,a,q,t)) (by
   intro b _
   rw[hend,List.drop_length];simp) (by
   intro i b hi _
   refine .inl ⟨_,hstep i b hi,trivial,?_⟩
   rw[z2 hi 0]
   congr 3
   rw[Bool.or_assoc]
   congr 1
   rw[Bool.eq_iff_iff]
   simp only[Bool.or_eq_true,beq_iff_eq,decide_eq_true_eq,List.mem_cons]
   constructor
   ·rintro (h | h)
    ·exact .inl h.symm
    ·exact .inr h
   ·rintro (h | h)
    ·exact .inl h.symm
    ·exact .inr h) 0 b (Nat.zero_le _) trivial
 simpa using this
theorem zape {p:za} {a:Asked} (hf:zajh p a):z37 p a=some (z11 p a):=by
 obtain ⟨hv,hc,hk,hw,hd⟩:=hf
 have row2:∀ p:za,z8 (-1) (p.Links.Done.get a.C)=true→zvt a.P.V 0 p a default []=some (p,a,default,insD (p.Links.Done.get a.C) a.P.V):=by
  intro p hd
  have hl:=z1t hd
  rw[zvt]
  refine zaji (fun t=>?_) (fun u t hu ht=>?_)
  ·simp only[zyc];rw[Tr.rf (by simp),Tr.rl]
  ·simp only[zyc]
   rw[Tr.rt (by simp;omega),Tr.rg hc,Tr.rb (v:=(a.P.V,(u:Int),((u:Int)==a.P.V)||decide ((u:Int)∈p.Links.Done.get a.C),(u:Int),p,a,default,t)) (by
    rw[z2r]
    refine zang hl (fun b=>?_) (fun i b hi=>?_) _
    ·simp only[zyb];rw[Tr.rf (by simp),Tr.rl]
    ·simp only[zyb,yy4]
     rw[Tr.rt (by simpa using hi),Tr.rg ⟨by omega,by show (i:Int) < ((p.Links.Done.get a.C).length:Nat);omega⟩,Tr.rl,zl (by omega)])]
   simp only[]
   by_cases hb:((u:Int)==a.P.V||decide ((u:Int)∈p.Links.Done.get a.C))=true
   ·rw[if_pos hb,Tr.rt hb,Tr.rg (by show (t.length+1)*8≤_;omega),Tr.rl,zl (by omega)]
   ·rw[if_neg hb,Tr.rf (Bool.eq_false_iff.2 hb),Tr.rl,zl (by omega),List.append_nil]
 have row4:∀ p:za,z8 (-1) (p.Links.Done.get a.C)=true→zvu a.P.V 0 p a default []=some (p,a,default,insD (p.Links.Done.get a.C) a.P.V):=by
  intro p hd
  have hl:=z1t hd
  rw[zvu]
  refine zaji (fun t=>?_) (fun u t hu ht=>?_)
  ·simp only[zrw];rw[Tr.rf (by simp),Tr.rl]
  ·simp only[zrw]
   rw[Tr.rt (by simp;omega),Tr.rg hc,Tr.rb (v:=(a.P.V,(u:Int),((u:Int)==a.P.V)||decide ((u:Int)∈p.Links.Done.get a.C),(u:Int),p,a,default,t)) (by
    rw[z2s]
    refine zang hl (fun b=>?_) (fun i b hi=>?_) _
    ·simp only[zrv];rw[Tr.rf (by simp),Tr.rl]
    ·simp only[zrv,yy4]
     rw[Tr.rt (by simpa using hi),Tr.rg ⟨by omega,by show (i:Int) < ((p.Links.Done.get a.C).length:Nat);omega⟩,Tr.rl,zl (by omega)])]
   simp only[]
   by_cases hb:((u:Int)==a.P.V||decide ((u:Int)∈p.Links.Done.get a.C))=true
   ·rw[if_pos hb,Tr.rt hb,Tr.rg (by show (t.length+1)*8≤_;omega),Tr.rl,zl (by omega)]
   ·rw[if_neg hb,Tr.rf (Bool.eq_false_iff.2 hb),Tr.rl,zl (by omega),List.append_nil]
 rw[z37,z7h,Tr.rg ⟨by omega,by omega⟩]
 unfold z11
 by_cases k2:a.P.Kind=2
 ·rw[Tr.rt (by simpa using k2),Tr.rb (z59 hw),Tr.rl,if_pos k2]
 ·rw[Tr.rf (by simpa using k2),if_neg k2]
  by_cases k4:a.P.Kind=4
  ·rw[if_pos k4,Tr.rt (by simpa using k4)]
   by_cases hdd:p.Stake.Validators.Dead.get a.P.V=true
   ·rw[if_pos hdd,hdd,zn1,Tr.rl]
   ·rw[if_neg hdd,Bool.eq_false_iff.2 hdd,zn2,Tr.rg hc,Tr.rg (by rw[z4e];rfl),z4e]
    simp only[yy2]
    rw[Tr.rb z9p,Tr.rl];rfl
  ·have k3:a.P.Kind=3:=by omega
   rw[if_neg k4,Tr.rf (by simpa using k4)]
   by_cases hj:p.Stake.Validators.Jailed.get a.P.V=true
   ·rw[if_pos hj,hj,zn1,Tr.rb (row4 p hd),Tr.rg hc,Tr.rl];rfl
   ·rw[if_neg hj,Bool.eq_false_iff.2 hj,zn2,Tr.rg (by decide),Tr.rb zalg]
    rw[show (if (IntKind.i64.wrap (Int.tdiv (p.Stake.Validators.Tokens.get a.P.V) 100)) > 1 then (IntKind.i64.wrap (Int.tdiv (p.Stake.Validators.Tokens.get a.P.V) 100)) else 1)=ztr p a.P.V from rfl]
    by_cases ht:(z7u p.Meter (ztr p a.P.V)).2=true
    ·rw[if_pos ht,ht,zn1,Tr.rb z9p,Tr.rb (row2 { p with Stake:=(zcx p.Stake a.P.V 0).1,Meter:=(z7u p.Meter (ztr p a.P.V)).1 } hd),Tr.rg hc,Tr.rl];rfl
    ·rw[if_neg ht,Bool.eq_false_iff.2 ht,zn2,Tr.rl]
def upP (p:za) (S:Stake) (D:A2 (List Int)) (M:Meter):za:={ p with Stake:=S,Links:={ p.Links with Done:=D },Meter:=M }
def z88 (p:za) (q:List Asked):za:={ p with Queue:=q }
def DealI (p0 p:za):Prop:=∃ S D M,p=upP p0 S D M∧GoodS S∧z8 (-1) D.x0=true∧z8 (-1) D.x1=true
theorem DealI.get {p0 p:za} (h:DealI p0 p) {c:Int}:z8 (-1) (p.Links.Done.get c)=true:=by
 obtain ⟨S,D,M,rfl,_,h0,h1⟩:=h
 show z8 (-1) (D.get c)=true
 unfold A2.get;split<;>assumption
theorem DealI.good {p0 p:za} (h:DealI p0 p):GoodS p.Stake:=by obtain ⟨S,D,M,rfl,h,_⟩:=h;exact h
theorem zasq {p0:za} {S:Stake} {D:A2 (List Int)} {M:Meter} {c v:Int} (h0:z8 (-1) D.x0=true) (h1:z8 (-1) D.x1=true):∃ D',zasn (upP p0 S D M) c v=upP p0 S D' M∧z8 (-1) D'.x0=true∧z8 (-1) D'.x1=true:=by
 refine ⟨D.set c (insD (D.get c) v),rfl,?_,?_⟩
 ·show z8 (-1) (if c=0 then insD (D.get c) v else D.x0)=true
  split
  ·exact zasm _ _
  ·exact h0
 ·show z8 (-1) (if c=1 then insD (D.get c) v else D.x1)=true
  split
  ·exact zasm _ _
  ·exact h1
theorem z09 {s:Stake} (hg:GoodS s) (v h f:Int):GoodS (zjr s v h f).1:=(zaoz hg v h f).1
theorem zym {s:Stake} (hg:GoodS s) (v:Int) {what:Int} (hw:what=0∨what=1∨what=2):GoodS (zcx s v what).1:=(zaoy hg v hw).1
theorem zanh {p0 p:za} (h:DealI p0 p) (a:Asked):DealI p0 (z11 p a).1:=by
 obtain ⟨S,D,M,rfl,hS,h0,h1⟩:=h
 unfold z11
 split
 ·exact ⟨zlk S a.C a.P.Id,D,M,rfl,z8o hS,h0,h1⟩
 ·split
  ·split
   ·exact ⟨S,D,M,rfl,hS,h0,h1⟩
   ·exact ⟨_,D,M,rfl,zym (z09 hS _ _ _) _ (.inr (.inr rfl)),h0,h1⟩
  ·split
   ·obtain ⟨D',e,k0,k1⟩:=zasq (p0:=p0) (S:=S) (M:=M) (c:=a.C) (v:=a.P.V) h0 h1
    exact ⟨S,D',M,e,hS,k0,k1⟩
   ·split
    ·obtain ⟨D',e,k0,k1⟩:=zasq (p0:=p0) (S:=(zcx S a.P.V 0).1) (M:=(z7u M (ztr (upP p0 S D M) a.P.V)).1) (c:=a.C) (v:=a.P.V) h0 h1
     exact ⟨_,D',_,e,zym hS _ (.inl rfl),k0,k1⟩
    ·exact ⟨S,D,M,rfl,hS,h0,h1⟩
theorem zapf (p:za) (q:List Asked) (a:Asked):z11 (z88 p q) a=(z88 (z11 p a).1 q,(z11 p a).2):=by
 unfold z11
 show (if a.P.Kind=2 then _ else if a.P.Kind=4 then (if p.Stake.Validators.Dead.get a.P.V=true then _ else _) else if p.Stake.Validators.Jailed.get a.P.V=true then _ else if (z7u p.Meter (ztr p a.P.V)).2=true then _ else _)=_
 by_cases k2:a.P.Kind=2
 ·rw[if_pos k2,if_pos k2];rfl
 ·rw[if_neg k2,if_neg k2]
  by_cases k4:a.P.Kind=4
  ·rw[if_pos k4,if_pos k4]
   by_cases hd:p.Stake.Validators.Dead.get a.P.V=true
   ·rw[if_pos hd,if_pos hd]
   ·rw[if_neg hd,if_neg hd];rfl
  ·rw[if_neg k4,if_neg k4]
   by_cases hj:p.Stake.Validators.Jailed.get a.P.V=true
   ·rw[if_pos hj,if_pos hj];rfl
   ·rw[if_neg hj,if_neg hj]
    by_cases ht:(z7u p.Meter (ztr p a.P.V)).2=true
    ·rw[if_pos ht,if_pos ht];rfl
    ·rw[if_neg ht,if_neg ht]
def z7w (t:za×A2 Bool×List Asked) (a:Asked):za×A2 Bool×List Asked :=
 if t.2.1.get a.C=true then (t.1,t.2.1.set a.C true,t.2.2++[a])
 else if (z11 t.1 a).2=true then ((z11 t.1 a).1,t.2.1,t.2.2)
 else ((z11 t.1 a).1,t.2.1.set a.C true,t.2.2++[a])
def zajj (p0:za) (i:Nat) (t:za×A2 Bool×List Asked):Prop :=
 DealI p0 t.1∧t.2.2.length≤i∧(∀ c:Int,0≤c∧c < 2→t.2.1.get c=t.2.2.any (fun b=>b.C==c))∧∀ b,b∈t.2.2→b∈p0.Queue
theorem za2 {α:Type} (a:A2 α) {i j:Int} (y:α) (hi:0≤i∧i < 2) (hj:0≤j∧j < 2):(a.set i y).get j=if j=i then y else a.get j:=by
 rcases (show i=0∨i=1 by omega) with rfl | rfl<;>rcases (show j=0∨j=1 by omega) with rfl | rfl<;>rfl
theorem zag8 {p0:za} {i:Nat} {t:za×A2 Bool×List Asked} (h:zajj p0 i t) {a:Asked} (hc:0≤a.C∧a.C < 2) (ha:a∈p0.Queue):zajj p0 (i+1) (z7w t a):=by
 obtain ⟨h1,h2,h3,h4⟩:=h
 have more:∀ p,DealI p0 p→zajj p0 (i+1) (p,t.2.1.set a.C true,t.2.2++[a]):=by
  intro p hp
  refine ⟨hp,by simp;omega,fun c hcc=>?_,fun b hb=>?_⟩
  ·show (t.2.1.set a.C true).get c=(t.2.2++[a]).any (fun b=>b.C==c)
   rw[za2 _ _ hc hcc,List.any_append]
   by_cases e:c=a.C
   ·rw[if_pos e];simp[e]
   ·rw[if_neg e,h3 c hcc];simp[Ne.symm e]
  ·rcases List.mem_append.1 hb with hb | hb
   ·exact h4 b hb
   ·rw[List.mem_singleton.1 hb];exact ha
 unfold z7w
 split
 ·exact more _ h1
 ·split
  ·exact ⟨zanh h1 a,by simp only[];omega,h3,h4⟩
  ·exact more _ (zanh h1 a)
theorem zasr {p0 p:za} (hp:DealI p0 p) {q:za} {a:Asked} (ha:ztz q a=true):zajh p a:=by
 unfold ztz at ha
 simp only[yy7,decide_eq_true_eq,beq_iff_eq,Bool.not_eq_true',beq_eq_false_iff_ne] at ha
 obtain ⟨⟨⟨⟨c0,c1⟩,_⟩,hg⟩,hk⟩:=ha
 have hf:=zoz hg
 exact ⟨⟨hf.2.2.2.2.1,hf.2.2.2.2.2.1⟩,⟨c0,c1⟩,by omega,hp.good.fit,hp.get⟩
theorem zax4 {p0:za} {q:za} {now:Int} {d:za} {l:List Asked} {p:za} (hp:DealI p0 p) (hl:l.length*88≤140737488351232) (ha:∀ a,a∈l→ztz q a=true∧a∈p0.Queue) :
  zi0 now l l.length 0 p d ⟨false,false⟩ []=some (now,(l.foldl z7w (p,⟨false,false⟩,[])).1,d,(l.foldl z7w (p,⟨false,false⟩,[])).2.2):=by
 rw[zi0]
 have:=zb1 (F:=fun s:Int×(List Asked)×Int×Int×za×za×(A2 Bool)×(List Asked)=>(zgk s.1 s.2.1 s.2.2.1 s.2.2.2.1 s.2.2.2.2.1 s.2.2.2.2.2.1 s.2.2.2.2.2.2.1 s.2.2.2.2.2.2.2).run) l default
  (fun i (t:za×A2 Bool×List Asked)=>(now,l,(l.length:Int),(i:Int),t.1,d,t.2.1,t.2.2)) (zajj p0) z7w (fun t=>(now,t.1,d,t.2.2)) (by
   intro t _
   simp only[zgk]
   rw[Tr.rf (by simp),Tr.rl]) (by
   intro i t hi hI
   obtain ⟨a1,a2⟩:=ha _ (zbu (l:=l) (k:=i) hi default)
   have hfit:=zasr hI.1 a1
   refine ⟨?_,zag8 hI hfit.c a2⟩
   have hlen:=hI.2.1
   simp only[zgk,yy4]
   rw[Tr.rt (by simpa using hi),Tr.rg ⟨by omega,by show (i:Int) < (l.length:Nat);omega⟩,Tr.rg hfit.c]
   unfold z7w
   by_cases hw:t.2.1.get (l.getD i default).C=true
   ·rw[if_pos hw,Tr.rt hw,Tr.rt (show true=true from rfl),Tr.rt (show true=true from rfl),Tr.rt (show true=true from rfl)]
    rw[Tr.rg hfit.c,Tr.rg (by show (t.2.2.length+1)*88≤_;omega),Tr.rl,zl (by omega)]
   ·rw[if_neg hw,Tr.rf (Bool.eq_false_iff.2 hw),Tr.rb (za38 hfit)]
    simp only[]
    by_cases hd:(z11 t.1 (l.getD i default)).2=true
    ·rw[if_pos hd,Tr.rf (by rw[hd];rfl),Tr.rl,zl (by omega)]
    ·rw[if_neg hd,Tr.rt (by rw[Bool.eq_false_iff.2 hd];rfl),Tr.rg hfit.c,Tr.rg (by show (t.2.2.length+1)*88≤_;omega),Tr.rl,zl (by omega)]) (p,⟨false,false⟩,[]) ⟨hp,by simp,fun c hc=>by rcases (show c=0∨c=1 by omega) with rfl | rfl<;>rfl,fun b hb=>by cases hb⟩
 exact this
theorem zall {x0 x2 x3:Int} {p d:za} {a:Asked} {q:List Asked} (hl:p.Queue.length≤9223372036854775807) :
  zjj x0 false x2 x3 p.Queue.length 0 d p a q=some (x0,p.Queue.any (fun b=>b.C==a.C),x2,x3,d,p,a,q):=by
 rw[zjj]
 have:=zbx (F:=fun s:Int×Bool×Int×Int×Int×Int×za×za×Asked×(List Asked)=>(zec s.1 s.2.1 s.2.2.1 s.2.2.2.1 s.2.2.2.2.1 s.2.2.2.2.2.1 s.2.2.2.2.2.2.1 s.2.2.2.2.2.2.2.1 s.2.2.2.2.2.2.2.2.1 s.2.2.2.2.2.2.2.2.2).run) p.Queue.length
  (fun i b=>(x0,b,x2,x3,(p.Queue.length:Int),(i:Int),d,p,a,q)) (fun _ _=>True) (fun i b=>(x0,b||(p.Queue.drop i).any (fun b=>b.C==a.C),x2,x3,d,p,a,q)) (by
   intro b _
   simp only[zec]
   rw[Tr.rf (by simp),Tr.rl,List.drop_length];simp) (by
   intro i b hi _
   refine .inl ⟨b||((p.Queue.getD i default).C==a.C),?_,trivial,?_⟩
   ·simp only[zec,yy4]
    rw[Tr.rt (by simpa using hi),Tr.rg ⟨by omega,by show (i:Int) < (p.Queue.length:Nat);omega⟩,Tr.rl,zl (by omega)]
   ·rw[z2 hi default,List.any_cons,Bool.or_assoc]) 0 false (Nat.zero_le _) trivial
 simpa using this
theorem zalm {p0:za} {q:za} {now:Int} {d:za} {l:List Asked} {p:za} (hp:DealI p0 p) (hl:l.length*88≤140737488351232) (ha:∀ a,a∈l→ztz q a=true∧a∈p0.Queue) :
  zfm now l.length 0 d (z88 p []) l=some (now,d,z88 (l.foldl z7w (p,⟨false,false⟩,[])).1 (l.foldl z7w (p,⟨false,false⟩,[])).2.2):=by
 rw[zfm]
 have:=zb1 (F:=fun s:Int×Int×Int×za×za×(List Asked)=>(zed s.1 s.2.1 s.2.2.1 s.2.2.2.1 s.2.2.2.2.1 s.2.2.2.2.2).run) l default
  (fun i (t:za×A2 Bool×List Asked)=>(now,(l.length:Int),(i:Int),d,z88 t.1 t.2.2,l)) (zajj p0) z7w (fun t=>(now,d,z88 t.1 t.2.2)) (by
   intro t _
   simp only[zed]
   rw[Tr.rf (by simp),Tr.rl]) (by
   intro i t hi hI
   obtain ⟨a1,a2⟩:=ha _ (zbu (l:=l) (k:=i) hi default)
   have hfit:=zasr hI.1 a1
   have hfitQ:zajh (z88 t.1 t.2.2) (l.getD i default):=⟨hfit.v,hfit.c,hfit.k,hfit.w,hfit.d⟩
   refine ⟨?_,zag8 hI hfit.c a2⟩
   have hlen:=hI.2.1
   simp only[zed,yy4]
   rw[Tr.rt (by simpa using hi),Tr.rg ⟨by omega,by show (i:Int) < (l.length:Nat);omega⟩,Tr.rb (zall (p:=z88 t.1 t.2.2) (by show t.2.2.length≤_;omega))]
   simp only[]
   have hw0:=hI.2.2.1 _ hfit.c
   unfold z7w
   by_cases hw:t.2.1.get (l.getD i default).C=true
   ·have hw':(z88 t.1 t.2.2).Queue.any (fun b=>b.C==(l.getD i default).C)=true:=by
     show t.2.2.any _=true
     rw[← hw0];exact hw
    rw[if_pos hw,hw',zn1,Tr.rt (show true=true from rfl),Tr.rg (by show (t.2.2.length+1)*88≤_;omega),Tr.rl,zl (by omega)]
    rfl
   ·have hw':(z88 t.1 t.2.2).Queue.any (fun b=>b.C==(l.getD i default).C)=false:=by
     show t.2.2.any _=false
     rw[← hw0];exact Bool.eq_false_iff.2 hw
    rw[if_neg hw,hw',zn2,Tr.rb (zape hfitQ),zapf]
    simp only[]
    by_cases hd:(z11 t.1 (l.getD i default)).2=true
    ·rw[if_pos hd,hd,zn1,Tr.rl,zl (by omega)]
    ·rw[if_neg hd,Bool.eq_false_iff.2 hd,zn2,Tr.rg (by show (t.2.2.length+1)*88≤_;omega),Tr.rl,zl (by omega)]
     rfl) (p,⟨false,false⟩,[]) ⟨hp,by simp,fun c hc=>by rcases (show c=0∨c=1 by omega) with rfl | rfl<;>rfl,fun b hb=>by cases hb⟩
 exact this
