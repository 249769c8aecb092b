/-
  The plain lemmas.
-/
import Derived.Test.YtobfadhgiaphnaaGreatXAbC
import Derived.Test.YtobfadhgiaphnaaGreatXAbPlain
import Derived.Test.YtobfadhgiaphnaaGreatXFBank
import Derived.Test.YtobfadhgiaphnaaGreatXFCodec
import Derived.Test.YtobfadhgiaphnaaGreatXFLine
import Derived.Test.YtobfadhgiaphnaaGreatXFRatio
import Derived.Test.YtobfadhgiaphnaaGreatXFRefA
import Derived.Test.YtobfadhgiaphnaaGreatXFRefB
import Derived.Test.YtobfadhgiaphnaaGreatXFRefC
import Derived.Test.YtobfadhgiaphnaaGreatXFStakeA
import Derived.Test.YtobfadhgiaphnaaGreatXFStakeB
namespace Go.Proofs.YtobfadhgiaphnaaGreat.Ab
open Go Go.RowKit
open Go.IntKind (i64 u64)
set_option linter.unusedSimpArgs false
set_option linter.unusedVariables false
theorem zgg {σ ρ τ:Type} {F:σ→Option (σ⊕ρ)} (n:Nat) (mk:Nat→τ→σ) (I:Nat→τ→Prop) (R:Nat→τ→ρ→Prop)
  (hend:∀ t,I n t→∃ r,F (mk n t)=some (.inr r)∧R n t r)
  (hstep:∀ i t,i < n→I i t→(∃ t',F (mk i t)=some (.inl (mk (i+1) t'))∧I (i+1) t'∧∀ r,R (i+1) t' r→R i t r)∨∃ r,F (mk i t)=some (.inr r)∧R i t r) :
  ∀ i t,i≤n→I i t→∃ r,zbl F (mk i t)=some r∧R i t r:=by
 have key:∀ k i t,n - i < k→i≤n→I i t→∃ r,zbl F (mk i t)=some r∧R i t r:=by
  intro k
  induction k with
  | zero=>intro i t h;omega
  | succ k ih =>
   intro i t hk hi hI
   rw[zyx]
   by_cases h:i < n
   ·rcases hstep i t h hI with ⟨t',h1,h2,h3⟩ | ⟨r,h1,h2⟩
    ·rw[h1]
     obtain ⟨r,k1,k2⟩:=ih (i+1) t' (by omega) (by omega) h2
     exact ⟨r,k1,h3 r k2⟩
    ·rw[h1];exact ⟨r,rfl,h2⟩
   ·obtain rfl:i=n:=by omega
    obtain ⟨r,h1,h2⟩:=hend t hI
    rw[h1];exact ⟨r,rfl,h2⟩
 exact fun i t=>key _ i t (Nat.lt_succ_self _)
theorem zb7 {σ ρ τ:Type} {F:σ→Option (σ⊕ρ)} (n:Nat) (mk:Nat→τ→σ) (I:Nat→τ→Prop) (g:Nat→τ→ρ)
  (hend:∀ t,I n t→F (mk n t)=some (.inr (g n t)))
  (hstep:∀ i t,i < n→I i t→(∃ t',F (mk i t)=some (.inl (mk (i+1) t'))∧I (i+1) t'∧g (i+1) t'=g i t)∨F (mk i t)=some (.inr (g i t))) :
  ∀ i t,i≤n→I i t→zbl F (mk i t)=some (g i t):=by
 intro i t hi hI
 obtain ⟨r,h1,h2⟩:=zgg n mk I (fun i t r=>r=g i t) (fun t h=>⟨_,hend t h,rfl⟩)
  (fun i t h hI=>(hstep i t h hI).imp (fun ⟨t',h1,h2,h3⟩=>⟨t',h1,h2,fun r hr=>hr.trans h3⟩) (fun h=>⟨_,h,rfl⟩)) i t hi hI
 rw[h1,h2]
theorem zwh {σ α β γ:Type} {F:σ→Option (σ⊕(β⊕γ))} (l:List α) (d:α) (mk:Nat→σ) (p:α→Bool) (bad:β) (out:γ)
  (hend:F (mk l.length)=some (.inr (.inr out))) (hok:∀ i,i < l.length→p (l.getD i d)=true→F (mk i)=some (.inl (mk (i+1))))
  (hbad:∀ i,i < l.length→p (l.getD i d)=false→F (mk i)=some (.inr (.inl bad))):zbl F (mk 0)=some (if l.all p=true then .inr out else .inl bad):=by
 have:=zb7 (F:=F) l.length (fun i (_:Unit)=>mk i) (fun _ _=>True) (fun i _=>if (l.drop i).all p=true then .inr out else .inl bad) (by
   intro t _
   rw[hend,List.drop_length];rfl) (by
   intro i t hi _
   have hs:l.drop i=l.getD i d::l.drop (i+1):=by
    rw[List.drop_eq_getElem_cons hi,yy0,yy3 hi];rfl
   cases hp:p (l.getD i d) with
   | true=>exact .inl ⟨(),hok i hi hp,trivial,by rw[hs,List.all_cons,hp,Bool.true_and]⟩
   | false=>exact .inr (by rw[hbad i hi hp,hs,List.all_cons,hp,Bool.false_and];rfl)) 0 () (Nat.zero_le _) trivial
 rwa [List.drop_zero] at this
theorem zcd {σ ρ τ α:Type} {F:σ→Option (σ⊕ρ)} (l:List α) (d:α) (mk:Nat→τ→σ) (I:Nat→τ→Prop) (g:τ→α→τ) (out:τ→ρ)
  (hend:∀ t,I l.length t→F (mk l.length t)=some (.inr (out t)))
  (hstep:∀ i t,i < l.length→I i t→F (mk i t)=some (.inl (mk (i+1) (g t (l.getD i d))))∧I (i+1) (g t (l.getD i d))) (t:τ) (h0:I 0 t) :
  zbl F (mk 0 t)=some (out (l.foldl g t)):=by
 have:=zb7 (F:=F) l.length mk I (fun i t=>out ((l.drop i).foldl g t)) (by
   intro t ht
   rw[hend t ht,List.drop_length];rfl) (by
   intro i t hi ht
   have hs:l.drop i=l.getD i d::l.drop (i+1):=by
    rw[List.drop_eq_getElem_cons hi,yy0,yy3 hi];rfl
   obtain ⟨h1,h2⟩:=hstep i t hi ht
   exact .inl ⟨_,h1,h2,by rw[hs,List.foldl_cons]⟩) 0 t (Nat.zero_le _) h0
 rwa [List.drop_zero] at this
theorem zab {σ ρ:Type} {F:σ→Option (σ⊕ρ)} {s s':σ} (h:F s=some (.inl s')):zbl F s=zbl F s':=by rw[zyx,h]
theorem zba {σ ρ:Type} {F:σ→Option (σ⊕ρ)} {s:σ} {r:ρ} (h:F s=some (.inr r)):zbl F s=some r:=by rw[zyx,h]
theorem zl {i:Nat} (h:i+1≤9223372036854775807):i64.wrap ((i:Int)+1)=((i+1:Nat):Int):=by
 rw[zg (by omega) (by omega)];omega
theorem zo (l:List Power):Sl.len (.powers l)=l.length:=rfl
theorem zer (l:List Int):Sl.len (.ints l)=l.length:=rfl
theorem zan (l:List Packet):Sl.len (.packets l)=l.length:=rfl
theorem zdm (l:List Ripe):Sl.len (.ripes l)=l.length:=rfl
theorem zaap (l:List UInt8):Sl.len (.bytes l)=l.length:=rfl
theorem z6 {α:Type} {l:List α} {k:Nat} (h:k < l.length) (d:α):l.drop k=l.getD k d::l.drop (k+1):=by
 rw[List.drop_eq_getElem_cons h,yy0,yy3 h];rfl
theorem zbk {α:Type} {l:List α} {k:Nat} (h:k < l.length) (d:α):l.getD k d∈l:=by
 rw[yy0,yy3 h];exact List.getElem_mem h
theorem zaiu {l:List Int} (hl:l.length≤9223372036854775807):zb1 l l=some true:=by
 have key:zqy l l l.length 0=some (.inr ()):=by
  refine z6t (F:=fun s:(List Int)×(List Int)×Int×Int=>(zgu s.1 s.2.1 s.2.2.1 s.2.2.2).run)
   (fun s=>s.1=l∧s.2.1=l∧s.2.2.1=l.length∧0≤s.2.2.2∧s.2.2.2≤l.length) (fun s=>l.length - s.2.2.2.toNat) (fun _=>.inr ()) ?_ (l,l,(l.length:Int),0) ⟨rfl,rfl,rfl,by simp,by simp⟩
  rintro ⟨x0,x1,x2,x3⟩ ⟨h1,h2,h3,h4,h5⟩
  simp only at h1 h2 h3 h4 h5
  subst h2;subst h1;subst h3
  simp only[zgu]
  by_cases hc:x3 < x0.length
  ·refine .inl ⟨_,by rw[Tr.rt (by simpa using hc),Tr.rg ⟨h4,hc⟩,Tr.rg ⟨h4,hc⟩,Tr.rf (by simp),Tr.rl],⟨rfl,rfl,rfl,?_,?_⟩,?_,trivial⟩
   all_goals (simp only[];rw[zg (by omega) (by omega)];omega)
  ·exact .inr (by rw[Tr.rf (by simpa using hc),Tr.rl])
 rw[zb1,zpj,Tr.rf (by simp),Tr.rj key,Tr.rl]
theorem zads {a b:List Power} (hl:a.length≤9223372036854775807):∃ r,z5 a b=some r∧(r=true↔a=b):=by
 rw[z5,zru]
 by_cases h:a.length=b.length
 ·rw[Tr.rf (by simp;omega)]
  obtain ⟨r,h1,h2⟩:=zgg (F:=fun s:(List Power)×(List Power)×Int×Int=>(zfi s.1 s.2.1 s.2.2.1 s.2.2.2).run) a.length
   (fun i (_:Unit)=>(a,b,(a.length:Int),(i:Int))) (fun i _=>True) (fun i _ r=>match r with | .inl x=>x=false∧a.drop i≠b.drop i | .inr _=>a.drop i=b.drop i) (by
    intro t _
    refine ⟨.inr (),?_,?_⟩
    ·simp only[zfi];rw[Tr.rf (by simp),Tr.rl]
    ·rw[List.drop_length,h,List.drop_length]) (by
    intro i t hi _
    have sa:=z6 (l:=a) (k:=i) hi default
    have sb:=z6 (l:=b) (k:=i) (by omega) default
    simp only[zfi,yy4]
    rw[Tr.rt (by simpa using hi),Tr.rg ⟨by omega,by rw[zo];omega⟩,Tr.rg ⟨by omega,by rw[zo];omega⟩,sa,sb]
    generalize a.getD i default=x
    generalize b.getD i default=y
    by_cases hxy:x=y
    ·subst hxy
     refine .inl ⟨(),?_,trivial,?_⟩
     ·rw[Tr.rf (by simp),Tr.rl,zl (by omega)]
     ·intro r hr;cases r<;>simpa using hr
    ·refine .inr ⟨.inl false,?_,rfl,?_⟩
     ·rw[Tr.rt (by cases x;cases y;simp only[Power.mk.injEq,not_and] at hxy;simp only[Bool.not_eq_true',Bool.and_true,Bool.and_eq_false_iff,beq_eq_false_iff_ne];omega),Tr.rl]
     ·simp[hxy]) 0 () (by omega) trivial
  have h1:zsn a b (a.length:Int) 0=some r:=h1
  cases r with
  | inl x=>exact ⟨false,by rw[Tr.ri h1,Tr.rl,h2.1],by simpa using h2.2⟩
  | inr x=>exact ⟨true,by rw[Tr.rj h1,Tr.rl],by simpa using h2⟩
 ·exact ⟨false,by rw[Tr.rt (by simp;omega),Tr.rl],by simp;intro e;rw[e] at h;exact h rfl⟩
def zc8:List Power→Int→Int
 | [],_=>0
 | p::l,v=>if p.V=v then p.N else zc8 l v
def z2w (d:List Power) (v n:Int):Int:=d.foldl (fun n p=>if p.V=v then p.N else n) n
def z2x (v n:Int):List Power:=if 0 < n then [⟨v,n⟩] else []
def zox (f:Nat→Int):List Power:=(List.range 6).foldl (fun t (v:Nat)=>t++z2x (v:Int) (f v)) []
def z2y (a d:List Power):List Power:=zox (fun v=>z2w d v (zc8 a v))
theorem z76 (v n:Int):(z2x v n).length≤1:=by unfold z2x;split<;>simp
theorem z2z (f:Nat→Int):(zox f).length≤6:=by
 have h:∀ (l:List Nat) (t:List Power),(l.foldl (fun t (v:Nat)=>t++z2x v (f v)) t).length≤t.length+l.length:=by
  intro l
  induction l with
  | nil=>intro t;simp
  | cons a l ih =>
   intro t
   have h1:=ih (t++z2x a (f a))
   have h2:=z76 a (f a)
   simp only[List.foldl_cons,yy6,List.length_cons] at h1 ⊢
   omega
 have:=h (List.range 6) []
 simpa[zox] using this
theorem zam8 {l:List Power} {v:Int} (hl:l.length≤9223372036854775807):zoa l v=some (zc8 l v):=by
 obtain ⟨r,h1,h2⟩:=zgg (F:=fun s:Int×(List Power)×Int×Int=>(zj8 s.1 s.2.1 s.2.2.1 s.2.2.2).run) l.length
  (fun i (_:Unit)=>(v,l,(l.length:Int),(i:Int))) (fun i _=>True) (fun i _ r=>match r with | .inl x=>zc8 (l.drop i) v=x | .inr _=>zc8 (l.drop i) v=0) (by
   intro t _
   refine ⟨.inr (),?_,?_⟩
   ·simp only[zj8];rw[Tr.rf (by simp),Tr.rl]
   ·rw[List.drop_length];rfl) (by
   intro i t hi _
   have hs:=z6 (l:=l) (k:=i) hi default
   simp only[zj8,yy4]
   rw[Tr.rt (by simpa using hi),Tr.rg ⟨by omega,by rw[zo];omega⟩,hs]
   by_cases hv:(l.getD i default).V=v
   ·exact .inr ⟨.inl (l.getD i default).N,by rw[Tr.rt (by rw[hv];simp),Tr.rl],by simp only[zc8];rw[if_pos hv]⟩
   ·refine .inl ⟨(),by rw[Tr.rf (by simpa using hv),Tr.rl,zl (by omega)],trivial,?_⟩
    intro r hr
    simp only[zc8]
    rw[if_neg hv]
    exact hr) 0 () (by omega) trivial
 have h1:z0t v l l.length 0=some r:=h1
 simp only[List.drop_zero] at h2
 rw[zoa,z2a]
 cases r with
 | inl x=>rw[Tr.ri h1,Tr.rl,← h2]
 | inr x=>rw[Tr.rj h1,Tr.rl,h2]
theorem zazw {a d acc:List Power} {v n w:Int} (hl:d.length≤9223372036854775807) :
  zpn a d v n w d d.length 0 acc=some (a,d,v,z2w d v n,w,acc):=by
 rw[zpn]
 refine zcd (F:=fun s:(List Power)×(List Power)×Int×Int×Int×(List Power)×Int×Int×(List Power)=>(zio s.1 s.2.1 s.2.2.1 s.2.2.2.1 s.2.2.2.2.1 s.2.2.2.2.2.1 s.2.2.2.2.2.2.1 s.2.2.2.2.2.2.2.1 s.2.2.2.2.2.2.2.2).run) d default
  (fun i n=>(a,d,v,n,w,d,(d.length:Int),(i:Int),acc)) (fun _ _=>True) (fun n p=>if p.V=v then p.N else n) (fun n=>(a,d,v,n,w,acc)) ?_ ?_ n trivial
 ·intro t _
  simp only[zio];rw[Tr.rf (by simp),Tr.rl]
 ·intro i t hi _
  refine ⟨?_,trivial⟩
  simp only[zio,yy4]
  rw[Tr.rt (by simpa using hi),Tr.rg ⟨by omega,by rw[zo];omega⟩]
  by_cases hv:(d.getD i default).V=v
  ·rw[if_pos hv,Tr.rt (by rw[hv];simp),Tr.rl,zl (by omega)]
  ·rw[if_neg hv,Tr.rf (by simpa using hv),Tr.rl,zl (by omega)]
theorem znj {i n:Nat} (h:i < n):(List.range n).getD i 0=i:=by
 rw[yy0,List.getElem?_range h];rfl
theorem zazx {a d:List Power} (ha:a.length≤9223372036854775807) (hd:d.length≤9223372036854775807):zxb a d=some (z2y a d):=by
 have key:zpo a d 0 []=some (z2y a d):=by
  rw[zpo]
  refine zcd (F:=fun s:(List Power)×(List Power)×Int×(List Power)=>(ziq s.1 s.2.1 s.2.2.1 s.2.2.2).run) (List.range 6) 0
   (fun i t=>(a,d,(i:Int),t)) (fun i t=>t.length≤i) (fun t (v:Nat)=>t++z2x v (z2w d v (zc8 a v))) (fun t=>t) ?_ ?_ [] (by simp)
  ·intro t _
   simp only[ziq,List.length_range];rw[Tr.rf (by rfl),Tr.rl]
  ·intro i t hi ht
   rw[List.length_range] at hi
   rw[znj hi]
   have h1:=z76 i (z2w d i (zc8 a i))
   refine ⟨?_,by rw[yy6];omega⟩
   simp only[ziq]
   rw[Tr.rt (by simp;omega),Tr.rb (zam8 ha),Tr.rb (zazw hd)]
   simp only[]
   unfold z2x
   by_cases hp:0 < z2w d i (zc8 a i)
   ·rw[if_pos hp,Tr.rt (by simpa using hp),Tr.rg (by simp only[zo,yy5];omega),Tr.rl,zl (by omega)]
   ·rw[if_neg hp,Tr.rf (by simpa using hp),Tr.rl,zl (by omega),List.append_nil]
 rw[zxb,zzy,Tr.rb key,Tr.rl]
def rowA (a:List Power):A6 Int:=⟨zc8 a 0,zc8 a 1,zc8 a 2,zc8 a 3,zc8 a 4,zc8 a 5⟩
theorem zaiv {p:Power} {l:List Power} (h:¬ (0≤p.V∧p.V < 6)):rowA (p::l)=rowA l:=by
 unfold rowA
 simp only[zc8]
 rw[if_neg (by omega),if_neg (by omega),if_neg (by omega),if_neg (by omega),if_neg (by omega),if_neg (by omega)]
theorem zakx {a:List Power} (ha:a.length≤9223372036854775807):zdf a=some (rowA a):=by
 have key:zz0 a ((a.length:Int) - 1) (⟨0,0,0,0,0,0⟩:(A6 Int)) (⟨0,0,0,0,0,0⟩:(A6 Int))=some (⟨0,0,0,0,0,0⟩,rowA a):=by
  have:=zb7 (F:=fun s:(List Power)×Int×(A6 Int)×(A6 Int)=>(zq4 s.1 s.2.1 s.2.2.1 s.2.2.2).run) a.length
   (fun i (t:A6 Int)=>(a,(a.length:Int) - 1 - i,(⟨0,0,0,0,0,0⟩:(A6 Int)),t)) (fun i t=>t=rowA (a.drop (a.length - i))) (fun _ _=>((⟨0,0,0,0,0,0⟩:(A6 Int)),rowA a)) (by
    intro t ht
    simp only[zq4]
    rw[Tr.rf (by simp;omega),Tr.rl,ht,Nat.sub_self,List.drop_zero]) (by
    intro i t hi ht
    have hs:=z6 (l:=a) (k:=a.length - (i+1)) (by omega) default
    rw[show a.length - (i+1)+1=a.length - i by omega] at hs
    have hn:((a.length:Int) - 1 - (i:Int)).toNat=a.length - (i+1):=by omega
    have hw:i64.wrap ((a.length:Int) - 1 - (i:Int) - 1)=(a.length:Int) - 1 - ((i+1:Nat):Int):=by rw[zg (by omega) (by omega)];omega
    simp only[zq4,hn,hw]
    rw[Tr.rt (by simp;omega),Tr.rg ⟨by omega,by rw[zo];omega⟩,Tr.rg (by intro _;exact ⟨⟨by omega,by rw[zo];omega⟩,trivial⟩)]
    by_cases hv:0≤(a.getD (a.length - (i+1)) default).V∧(a.getD (a.length - (i+1)) default).V < 6
    ·refine .inl ⟨rowA (a.drop (a.length - (i+1))),?_,rfl,by trivial⟩
     rw[Tr.rt (by simpa using hv),Tr.rg ⟨by omega,by rw[zo];omega⟩,Tr.rg ⟨by omega,by rw[zo];omega⟩,Tr.rg hv,Tr.rl,ht,hs]
     rfl
    ·refine .inl ⟨rowA (a.drop (a.length - (i+1))),?_,rfl,by trivial⟩
     rw[Tr.rf (by simp only[Bool.and_eq_false_iff,yy8];omega),Tr.rl,ht,hs,zaiv hv]) 0 ⟨0,0,0,0,0,0⟩ (by omega) (by rw[Nat.sub_zero,List.drop_length];rfl)
  simp only[Int.sub_zero,Int.natCast_zero,Int.ofNat_zero,Int.ofNat_eq_natCast] at this
  rw[zz0]
  exact this
 rw[zdf,zadi,zg (by omega) (by omega),Tr.rb key,Tr.rl]
def chA (t:A6 Int) (p:Power):A6 Int:=if 0≤p.V∧p.V < 6 then t.set p.V p.N else t
theorem zaoy:∀ (d:List Power) (t:A6 Int),d.foldl chA t=⟨z2w d 0 t.x0,z2w d 1 t.x1,z2w d 2 t.x2,z2w d 3 t.x3,z2w d 4 t.x4,z2w d 5 t.x5⟩
 | [],t=>rfl
 | p::d,t=>by
  rw[List.foldl_cons,zaoy d]
  unfold chA
  by_cases h:0≤p.V∧p.V < 6
  ·rw[if_pos h];rfl
  ·rw[if_neg h]
   simp only[z2w,List.foldl_cons]
   rw[if_neg (by omega),if_neg (by omega),if_neg (by omega),if_neg (by omega),if_neg (by omega),if_neg (by omega)]
theorem zago (f:Nat→Int) {i:Nat} (h:i < 6):(⟨f 0,f 1,f 2,f 3,f 4,f 5⟩:A6 Int).get (i:Int)=f i:=by
 obtain rfl | rfl | rfl | rfl | rfl | rfl:i=0∨i=1∨i=2∨i=3∨i=4∨i=5:=by omega
 all_goals rfl
theorem zam9 {a d:List Power} (ha:a.length≤9223372036854775807) (hd:d.length≤9223372036854775807):zwa a d=some (z2y a d):=by
 have k1:∀ t,zuy d d.length 0 t=some (d.foldl chA t):=by
  intro t
  rw[zuy]
  refine zcd (F:=fun s:(List Power)×Int×Int×(A6 Int)=>(zmb s.1 s.2.1 s.2.2.1 s.2.2.2).run) d default (fun i t=>(d,(d.length:Int),(i:Int),t)) (fun _ _=>True) chA (fun t=>t) ?_ ?_ t trivial
  ·intro t _
   simp only[zmb];rw[Tr.rf (by simp),Tr.rl]
  ·intro i t hi _
   refine ⟨?_,trivial⟩
   simp only[zmb,yy4]
   rw[Tr.rt (by simpa using hi),Tr.rg ⟨by omega,by rw[zo];omega⟩]
   unfold chA
   by_cases hv:0≤(d.getD i default).V∧(d.getD i default).V < 6
   ·rw[if_pos hv,Tr.rt (by simpa using hv),Tr.rg hv,Tr.rl,zl (by omega)]
   ·rw[if_neg hv,Tr.rf (by simp only[Bool.and_eq_false_iff,yy8];omega),Tr.rl,zl (by omega)]
 have k2:∀ f:Nat→Int,zuz 0 ⟨f 0,f 1,f 2,f 3,f 4,f 5⟩ []=some (zox f):=by
  intro f
  rw[zuz]
  refine zcd (F:=fun s:Int×(A6 Int)×(List Power)=>(zmc s.1 s.2.1 s.2.2).run) (List.range 6) 0
   (fun i t=>((i:Int),(⟨f 0,f 1,f 2,f 3,f 4,f 5⟩:A6 Int),t)) (fun i t=>t.length≤i) (fun t (v:Nat)=>t++z2x v (f v)) (fun t=>t) ?_ ?_ [] (by simp)
  ·intro t _
   simp only[zmc,List.length_range];rw[Tr.rf (by rfl),Tr.rl]
  ·intro i t hi ht
   rw[List.length_range] at hi
   rw[znj hi]
   have h1:=z76 i (f i)
   refine ⟨?_,by rw[yy6];omega⟩
   simp only[zmc,zago f hi]
   rw[Tr.rt (by simp;omega),Tr.rg (by omega)]
   unfold z2x
   by_cases hp:0 < f i
   ·rw[if_pos hp,Tr.rt (by simpa using hp),Tr.rg (by omega),Tr.rg (by simp only[zo,yy5];omega),Tr.rl,zl (by omega)]
   ·rw[if_neg hp,Tr.rf (by simpa using hp),Tr.rl,zl (by omega),List.append_nil]
 rw[zwa,z54,Tr.rb (zakx ha),Tr.rb (k1 _),zaoy]
 refine (Tr.rb (k2 (fun v=>z2w d v (zc8 a v)))).trans ?_
 rw[Tr.rl];rfl
theorem z9p {α:Type}:∀ (l t:List α),l.foldl (fun t a=>t++[a]) t=t++l
 | [],t=>by simp
 | a::l,t=>by rw[List.foldl_cons,z9p l];simp
theorem z20 {l:List Power} (hl:l.length≤9223372036854775807):z5 l l=some true:=by
 obtain ⟨r,e1,e2⟩:=zads (a:=l) (b:=l) hl
 rw[e1,e2.2 rfl]
def twoP (v x y:Int):List Power:=if x≠y then [⟨v,x⟩] else []
def z00 (f g:Nat→Int):List Power:=(List.range 6).foldl (fun t (v:Nat)=>t++twoP (v:Int) (g v) (f v)) []
theorem zaiw (f:Nat→Int):zox f=z2x ((0:Nat):Int) (f 0)++(z2x ((1:Nat):Int) (f 1)++(z2x ((2:Nat):Int) (f 2)++(z2x ((3:Nat):Int) (f 3)++(z2x ((4:Nat):Int) (f 4)++(z2x ((5:Nat):Int) (f 5)++[]))))):=by
 show ((((([]++z2x ((0:Nat):Int) (f 0))++z2x ((1:Nat):Int) (f 1))++z2x ((2:Nat):Int) (f 2))++z2x ((3:Nat):Int) (f 3))++z2x ((4:Nat):Int) (f 4))++z2x ((5:Nat):Int) (f 5)=_
 simp only[List.nil_append,List.append_nil,List.append_assoc]
theorem zadt (f g:Nat→Int):z00 f g=twoP ((0:Nat):Int) (g 0) (f 0)++(twoP ((1:Nat):Int) (g 1) (f 1)++(twoP ((2:Nat):Int) (g 2) (f 2)++(twoP ((3:Nat):Int) (g 3) (f 3)++(twoP ((4:Nat):Int) (g 4) (f 4)++(twoP ((5:Nat):Int) (g 5) (f 5)++[]))))):=by
 show ((((([]++twoP ((0:Nat):Int) (g 0) (f 0))++twoP ((1:Nat):Int) (g 1) (f 1))++twoP ((2:Nat):Int) (g 2) (f 2))++twoP ((3:Nat):Int) (g 3) (f 3))++twoP ((4:Nat):Int) (g 4) (f 4))++twoP ((5:Nat):Int) (g 5) (f 5)=_
 simp only[List.nil_append,List.append_nil,List.append_assoc]
theorem zadu {f g:Nat→Int} (h:∀ v,v < 6→f v=g v):zox f=zox g:=by
 rw[zaiw,zaiw,h 0 (by omega),h 1 (by omega),h 2 (by omega),h 3 (by omega),h 4 (by omega),h 5 (by omega)]
theorem zwi (w x y:Int):(twoP w x y).length≤1:=by unfold twoP;split<;>simp
theorem zagp (f g:Nat→Int):(z00 f g).length≤6:=by
 have h0:=zwi ((0:Nat):Int) (g 0) (f 0);have h1:=zwi ((1:Nat):Int) (g 1) (f 1);have h2:=zwi ((2:Nat):Int) (g 2) (f 2)
 have h3:=zwi ((3:Nat):Int) (g 3) (f 3);have h4:=zwi ((4:Nat):Int) (g 4) (f 4);have h5:=zwi ((5:Nat):Int) (g 5) (f 5)
 rw[zadt]
 simp only[yy6,List.length_nil]
 omega
def zeg (l:zbs):Prop:=l.Said.length=l.Due.length∧l.Said.length≤400∧0≤l.Got∧l.Got≤l.Said.length∧l.Due.any (fun d=>decide (d < 0))=false
instance (l:zbs):Decidable (zeg l):=inferInstanceAs (Decidable (_∧_))
def negs (l:List Int) (k:Nat):Bool:=(l.drop k).any (fun d=>decide (d < 0))
theorem zaoz {l:List Int} {k:Nat} (h:l.length≤k):negs l k=false:=by
 unfold negs;rw[List.drop_eq_nil_of_le h];rfl
theorem zaky {l:List Int} {k:Nat} (h:k < l.length):negs l k=(decide (l.getD k 0 < 0)||negs l (k+1)):=by
 unfold negs
 rw[List.drop_eq_getElem_cons h,List.any_cons,yy0,yy3 h]
 rfl
theorem zazy {l:List Int} (hl:l.length≤9223372036854775807):∃ r,zlf l l.length 0=some r∧(match r with | .inl k=>0≤k∧negs l 0=true | .inr _=>negs l 0=false):=by
 have:=zjt (F:=fun s:(List Int)×Int×Int=>(zdx s.1 s.2.1 s.2.2).run)
  (fun s=>s.1=l∧s.2.1=l.length∧0≤s.2.2∧s.2.2≤l.length) (fun s=>l.length - s.2.2.toNat)
  (fun s r=>match r with | .inl k=>0≤k∧negs l s.2.2.toNat=true | .inr _=>negs l s.2.2.toNat=false) ?_ (l,(l.length:Int),0) ⟨rfl,rfl,by simp,by simp⟩
 ·exact this
 ·rintro ⟨x0,x1,x2⟩ ⟨h1,h2,h3,h4⟩
  simp only at h1 h2 h3 h4
  subst h1;subst h2
  simp only[zdx]
  by_cases hc:x2 < x0.length
  ·rw[Tr.rt (by simpa using hc),Tr.rg ⟨h3,hc⟩,Tr.rb (v:=decide (x0.getD x2.toNat 0 < 0)) (by rw[z4e,zzo,Tr.rl])]
   have hs:=zaky (l:=x0) (k:=x2.toNat) (by omega)
   by_cases hd:x0.getD x2.toNat 0 < 0
   ·refine .inr ⟨_,by rw[Tr.rt (by simpa using hd),Tr.rl],?_⟩
    exact ⟨h3,by rw[hs,decide_eq_true hd];rfl⟩
   ·refine .inl ⟨_,by rw[Tr.rf (by simpa using hd),Tr.rl],⟨rfl,rfl,?_,?_⟩,?_,?_⟩
    ·simp only[];rw[zg (by omega) (by omega)];omega
    ·simp only[];rw[zg (by omega) (by omega)];omega
    ·simp only[];rw[zg (by omega) (by omega)];omega
    ·simp only[]
     rw[zg (by omega) (by omega),show (x2+1).toNat=x2.toNat+1 by omega]
     intro r hr
     rw[hs,decide_eq_false hd,Bool.false_or]
     exact hr
  ·refine .inr ⟨_,by rw[Tr.rf (by simpa using hc),Tr.rl],?_⟩
   exact zaoz (by omega)
theorem zana {l:List Int} (hl:l.length≤9223372036854775807):zfv l=some (negs l 0):=by
 obtain ⟨r,h1,h2⟩:=zazy hl
 rw[zfv,zgl]
 cases r with
 | inl k =>
  rw[Tr.rb (v:=k) (by rw[zhx,zfp,Tr.ri h1,Tr.rl]),Tr.rl,h2.2]
  simp[h2.1]
 | inr k =>
  rw[Tr.rb (v := -1) (by rw[zhx,zfp,Tr.rj h1,Tr.rl]),Tr.rl,h2]
  rfl
theorem zao0 {l:zbs}:zeg l↔(l.Said.length=l.Due.length∧l.Said.length≤400∧0≤l.Got∧l.Got≤l.Said.length)∧negs l.Due 0=false :=
 ⟨fun h=>⟨⟨h.1,h.2.1,h.2.2.1,h.2.2.2.1⟩,h.2.2.2.2⟩,fun h=>⟨h.1.1,h.1.2.1,h.1.2.2.1,h.1.2.2.2,h.2⟩⟩
theorem z9q (l:zbs):zf3 l=some (decide (zeg l)):=by
 rw[zf3,z5s]
 by_cases hc:l.Said.length=l.Due.length∧l.Said.length≤400∧0≤l.Got∧l.Got≤l.Said.length
 ·obtain ⟨h1,h2,h3,h4⟩:=hc
  rw[Tr.rf (by simp;omega),Tr.rb (zana (by omega)),Tr.rl]
  congr 1
  rw[Bool.eq_iff_iff,decide_eq_true_iff,zao0,Bool.not_eq_true']
  exact ⟨fun h=>⟨⟨h1,h2,h3,h4⟩,h⟩,fun h=>h.2⟩
 ·rw[Tr.rt (by simp;omega),Tr.rl]
  congr 1
  symm
  simp only[yy8]
  intro h
  exact hc ⟨h.1,h.2.1,h.2.2.1,h.2.2.2.1⟩
theorem zto {l:zbs} (hl:l.Due.length≤9223372036854775807):zb8 l=some (decide (zeg l)):=by
 have key:∃ r,zvx l.Due l.Due.length 0 l=some r∧(match r with | .inl b=>b=false∧negs l.Due 0=true | .inr x=>x=l∧negs l.Due 0=false):=by
  have:=zjt (F:=fun s:(List Int)×Int×Int×zbs=>(zk0 s.1 s.2.1 s.2.2.1 s.2.2.2).run)
   (fun s=>s.1=l.Due∧s.2.1=l.Due.length∧0≤s.2.2.1∧s.2.2.1≤l.Due.length∧s.2.2.2=l) (fun s=>l.Due.length - s.2.2.1.toNat)
   (fun s r=>match r with | .inl b=>b=false∧negs l.Due s.2.2.1.toNat=true | .inr x=>x=l∧negs l.Due s.2.2.1.toNat=false) ?_ (l.Due,(l.Due.length:Int),0,l) ⟨rfl,rfl,by simp,by simp,rfl⟩
  ·exact this
  ·rintro ⟨x0,x1,x2,x3⟩ ⟨h1,h2,h3,h4,h5⟩
   simp only at h1 h2 h3 h4 h5
   subst h5;subst h1;subst h2
   simp only[zk0]
   by_cases hc:x2 < x3.Due.length
   ·rw[Tr.rt (by simpa using hc),Tr.rg ⟨h3,hc⟩]
    have hs:=zaky (l:=x3.Due) (k:=x2.toNat) (by omega)
    by_cases hd:x3.Due.getD x2.toNat 0 < 0
    ·refine .inr ⟨_,by rw[Tr.rt (by simpa using hd),Tr.rl],?_⟩
     exact ⟨rfl,by rw[hs,decide_eq_true hd];rfl⟩
    ·refine .inl ⟨_,by rw[Tr.rf (by simpa using hd),Tr.rl],⟨rfl,rfl,?_,?_,rfl⟩,?_,?_⟩
     ·simp only[];rw[zg (by omega) (by omega)];omega
     ·simp only[];rw[zg (by omega) (by omega)];omega
     ·simp only[];rw[zg (by omega) (by omega)];omega
     ·simp only[]
      rw[zg (by omega) (by omega),show (x2+1).toNat=x2.toNat+1 by omega]
      intro r hr
      rw[hs,decide_eq_false hd,Bool.false_or]
      exact hr
   ·refine .inr ⟨_,by rw[Tr.rf (by simpa using hc),Tr.rl],?_⟩
    exact ⟨rfl,zaoz (by omega)⟩
 obtain ⟨r,h1,h2⟩:=key
 rw[zb8,zw4]
 cases r with
 | inl b =>
  obtain ⟨rfl,h3⟩:=h2
  rw[Tr.ri h1,Tr.rl]
  congr 1
  symm
  simp only[yy8]
  intro h
  have h4:=h.2.2.2.2
  unfold negs at h3
  simp only[List.drop_zero] at h3
  rw[h3] at h4
  cases h4
 | inr x =>
  obtain ⟨rfl,h3⟩:=h2
  rw[Tr.rj h1,Tr.rl]
  congr 1
  rw[Bool.eq_iff_iff,decide_eq_true_iff,zao0]
  simp[h3]
  omega
theorem zatp {l:List ByteArray} (h:l.length≤400):zdp l=some l:=by
 rw[zdp,zj3]
 refine Tr.run_split (fun h0=>?_) (fun _=>?_) (.inr trivial)
 ·rw[Tr.rl,List.length_eq_zero_iff.1 h0]
 ·rw[Tr.rg (by simp only[Sl.len,List.length_nil];omega),Tr.rl]
theorem zakz {l:List Int} (h:l.length≤400):zaj l=some l:=by
 rw[zaj,znw]
 refine Tr.run_split (fun h0=>?_) (fun _=>?_) (.inr trivial)
 ·rw[Tr.rl,List.length_eq_zero_iff.1 h0]
 ·rw[Tr.rg (by simp only[Sl.len,List.length_nil];omega),Tr.rl]
theorem zadv {l:zbs} (h1:l.Said.length*16≤140737488351232) (h2:l.Due.length*8≤140737488351232):zcy l=some l:=by
 rw[zcy,zw1,Tr.rg (by simp only[Sl.len];omega),Tr.rg (by simp only[Sl.len];omega),Tr.rl]
def sayL (l:zbs) (s:ByteArray) (u:Int):zbs×Int :=
 if ¬ zeg l∨u < 0 then (l,2) else if l.Closed=true then (l,11) else if 400≤l.Said.length then (l,6)
 else ({ l with Said:=l.Said++[s],Due:=l.Due++[u] },0)
theorem za3w (l:zbs) (s:ByteArray) (u:Int):zzq l s u=some (sayL l s u):=by
 rw[zzq,z9c,Tr.rb (z9q l)]
 unfold sayL
 by_cases hg:¬ zeg l∨u < 0
 ·rw[Tr.rt (by simpa using hg),Tr.rl,if_pos hg]
 ·rw[Tr.rf (by simpa using hg),if_neg hg,Tr.run_ite]
  simp only[not_or,Decidable.not_not] at hg
  obtain ⟨⟨h1,h2,h3,h4,h5⟩,h6⟩:=hg
  by_cases hcl:l.Closed=true
  ·rw[if_pos hcl,if_pos hcl,Tr.rl]
  ·rw[if_neg hcl,if_neg hcl]
   by_cases hn:400≤l.Said.length
   ·rw[Tr.rt (by simp;omega),Tr.rl,if_pos hn]
   ·have e1:=zatp (l:=l.Said) (by omega)
    have e2:=zakz (l:=l.Due) (by omega)
    rw[Tr.rf (by simp;omega),if_neg hn,e1,e2,Tr.rg Option.isSome_some,Tr.rg (by simp only[yy2,Sl.len,yy5];omega),Tr.rg Option.isSome_some,Tr.rg (by simp only[yy2,Sl.len,yy5];omega),Tr.rl]
    rfl
theorem zak0 {l:zbs} (s:ByteArray) (u:Int) (hl:l.Due.length≤9223372036854775807):z3i l s u=some (sayL l s u):=by
 rw[z3i,zac1,Tr.rb (zto hl)]
 unfold sayL
 by_cases hg:¬ zeg l∨u < 0
 ·rw[Tr.rt (by simpa using hg),Tr.rl,if_pos hg]
 ·rw[Tr.rf (by simpa using hg),if_neg hg,Tr.run_ite]
  simp only[not_or,Decidable.not_not] at hg
  obtain ⟨⟨h1,h2,h3,h4,h5⟩,h6⟩:=hg
  by_cases hcl:l.Closed=true
  ·rw[if_pos hcl,if_pos hcl,Tr.rl]
  ·rw[if_neg hcl,if_neg hcl]
   by_cases hn:400≤l.Said.length
   ·rw[Tr.rt (by simp;omega),Tr.rl,if_pos hn]
   ·rw[Tr.rf (by simp;omega),if_neg hn,Tr.rb (zadv (l:=l) (by omega) (by omega)),Tr.rg (by simp only[Sl.len,yy5];omega),Tr.rg (by simp only[Sl.len,yy5];omega),Tr.rl]
theorem zao1 {l:zbs} (h1:l.Said.length≤9223372036854775807) (h2:l.Due.length≤9223372036854775807):zg2 l l=some true:=by
 have key:zvw l.Said.length 0 l l=some (.inr (l,l)):=by
  refine z6t (F:=fun s:Int×Int×zbs×zbs=>(zkz s.1 s.2.1 s.2.2.1 s.2.2.2).run)
   (fun s=>s.1=l.Said.length∧0≤s.2.1∧s.2.1≤l.Said.length∧s.2.2.1=l∧s.2.2.2=l) (fun s=>l.Said.length - s.2.1.toNat) (fun _=>.inr (l,l)) ?_ ((l.Said.length:Int),0,l,l) ⟨rfl,by simp,by simp,rfl,rfl⟩
  rintro ⟨x0,x1,x2,x3⟩ ⟨e1,e2,e3,e4,e5⟩
  simp only at e1 e2 e3 e4 e5
  subst e4;subst e5;subst e1
  simp only[zkz]
  by_cases hc:x1 < x3.Said.length
  ·refine .inl ⟨_,by rw[Tr.rt (by simpa using hc),Tr.rg ⟨e2,hc⟩,Tr.rg ⟨e2,hc⟩,Tr.rf (by simp),Tr.rl],⟨rfl,?_,?_,rfl,rfl⟩,?_,trivial⟩
   all_goals (simp only[];rw[zg (by omega) (by omega)];omega)
  ·exact .inr (by rw[Tr.rf (by simpa using hc),Tr.rl])
 rw[zg2,zw2,Tr.rf (by simp),Tr.rj key,Tr.rb (zaiu h2),Tr.rl]
def zoy (l:zbs) (k:Int) (s:ByteArray) (said time:Int):zbs×Int :=
 if ¬ zeg l then (l,2) else if l.Closed=true then (l,11) else if k≠l.Got+1 then (l,10)
 else if said < k∨(l.Said.length:Int) < k∨(l.Said.getD l.Got.toNat .empty).toList≠s.toList then (l,9)
 else if l.Due.getD l.Got.toNat 0≤time then (l,12) else ({ l with Got:=k },0)
theorem zagq (l:zbs) (k:Int) (s:ByteArray) (said time:Int):zp l k s said time=some (zoy l k s said time):=by
 rw[zp,zw0,Tr.rb (z9q l)]
 unfold zoy
 by_cases hg:zeg l
 ·rw[Tr.rf (by simpa using hg),if_neg (by simpa using hg),Tr.run_ite]
  obtain ⟨h1,h2,h3,h4,h5⟩:=hg
  by_cases hcl:l.Closed=true
  ·rw[if_pos hcl,if_pos hcl,Tr.rl]
  ·rw[if_neg hcl,if_neg hcl,zg (x:=l.Got+1) (by omega) (by omega)]
   by_cases hk:k=l.Got+1
   ·rw[Tr.rf (by simpa using hk),if_neg (by simpa using hk),zg (x:=k - 1) (by omega) (by omega),show k - 1=l.Got by omega]
    by_cases hs:said < k∨(l.Said.length:Int) < k
    ·rw[Tr.rg (by intro h;simp at h;omega),Tr.rt (by simp;omega),Tr.rl,if_pos (by rcases hs with h | h<;>simp[h])]
    ·rw[Tr.rg (by intro h;simp only[Sl.len];exact ⟨⟨h3,by omega⟩,trivial⟩)]
     by_cases he:(l.Said.getD l.Got.toNat .empty).toList=s.toList
     ·rw[Tr.rf (by rw[he];simp;omega),Tr.rg (by simp only[Sl.len];exact ⟨h3,by omega⟩),if_neg (by simp only[not_or,Decidable.not_not];exact ⟨by omega,by omega,he⟩)]
      by_cases ht:l.Due.getD l.Got.toNat 0≤time
      ·rw[Tr.rt (by simpa using ht),Tr.rl,if_pos ht]
      ·rw[Tr.rf (by simpa using ht),Tr.rl,if_neg ht]
     ·rw[Tr.rt (by simp only[Bool.or_eq_true,Bool.not_eq_true',beq_eq_false_iff_ne];exact .inr he),Tr.rl,if_pos (.inr (.inr he))]
   ·rw[Tr.rt (by simpa using hk),Tr.rl,if_pos (by simpa using hk)]
 ·rw[Tr.rt (by simpa using hg),Tr.rl,if_pos hg]
theorem zaix {l:zbs} {k:Int} (s:ByteArray) (said time:Int) (hl:l.Due.length≤9223372036854775807) (hk0:i6 k):zam l k s said time=some (zoy l k s said time):=by
 rw[zam,zzs,Tr.rb (zto hl)]
 unfold zoy
 unfold i6 at hk0
 by_cases hg:zeg l
 ·rw[Tr.rf (by simpa using hg),if_neg (by simpa using hg),Tr.run_ite]
  obtain ⟨h1,h2,h3,h4,h5⟩:=hg
  by_cases hcl:l.Closed=true
  ·rw[if_pos hcl,if_pos hcl,Tr.rl]
  ·rw[if_neg hcl,if_neg hcl]
   by_cases hk:k=l.Got+1
   ·rw[Tr.rf (by rw[zg (x:=k - 1) (by omega) (by omega)];simp;omega),if_neg (by simpa using hk)]
    by_cases hs:said < k∨(l.Said.length:Int) < k
    ·rw[Tr.rg (by intro h;simp at h;omega),Tr.rt (by simp;omega),Tr.rl,if_pos (by rcases hs with h | h<;>simp[h])]
    ·rw[Tr.rg (by intro h;simp only[Sl.len];exact ⟨⟨h3,by omega⟩,trivial⟩)]
     by_cases he:(l.Said.getD l.Got.toNat .empty).toList=s.toList
     ·rw[Tr.rf (by rw[he];simp;omega),Tr.rg (by simp only[Sl.len];exact ⟨h3,by omega⟩),if_neg (by simp only[not_or,Decidable.not_not];exact ⟨by omega,by omega,he⟩)]
      by_cases ht:l.Due.getD l.Got.toNat 0≤time
      ·rw[Tr.rt (by simpa using ht),Tr.rl,if_pos ht]
      ·rw[Tr.rf (by simpa using ht),if_neg ht,Tr.rb (zadv (l:=l) (by omega) (by omega)),Tr.rl,zg (x:=l.Got+1) (by omega) (by omega),hk]
     ·rw[Tr.rt (by simp only[Bool.or_eq_true,Bool.not_eq_true',beq_eq_false_iff_ne];exact .inr (fun h=>he h.symm)),Tr.rl,if_pos (.inr (.inr he))]
   ·rw[Tr.rt (by
     by_cases h:k < 1
     ·simp[h]
     ·rw[zg (x:=k - 1) (by omega) (by omega)];simp;omega),Tr.rl,if_pos (by simpa using hk)]
 ·rw[Tr.rt (by simpa using hg),Tr.rl,if_pos hg]
def zsg (l:zbs) (k time got:Int):zbs×Int :=
 if ¬ zeg l then (l,2) else if l.Closed=true then (l,11) else if k < 1∨(l.Said.length:Int) < k then (l,4)
 else if k≤got then (l,5) else if time < l.Due.getD (k - 1).toNat 0 then (l,13) else ({ l with Closed:=true },0)
theorem zak1 (l:zbs) (k time got:Int):zqk l k time got=some (zsg l k time got):=by
 rw[zqk,zzr,Tr.rb (z9q l)]
 unfold zsg
 by_cases hg:zeg l
 ·rw[Tr.rf (by simpa using hg),if_neg (by simpa using hg),Tr.run_ite]
  obtain ⟨h1,h2,h3,h4,h5⟩:=hg
  by_cases hcl:l.Closed=true
  ·rw[if_pos hcl,if_pos hcl,Tr.rl]
  ·rw[if_neg hcl,if_neg hcl]
   by_cases hk:k < 1∨(l.Said.length:Int) < k
   ·rw[Tr.rt (by simpa using hk),Tr.rl,if_pos hk]
   ·rw[Tr.rf (by simpa using hk),if_neg hk]
    by_cases hgt:k≤got
    ·rw[Tr.rt (by simpa using hgt),Tr.rl,if_pos hgt]
    ·rw[Tr.rf (by simpa using hgt),if_neg hgt,zg (x:=k - 1) (by omega) (by omega),Tr.rg (by simp only[Sl.len];exact ⟨by omega,by omega⟩)]
     by_cases ht:time < l.Due.getD (k - 1).toNat 0
     ·rw[Tr.rt (by simpa using ht),Tr.rl,if_pos ht]
     ·rw[Tr.rf (by simpa using ht),Tr.rl,if_neg ht]
 ·rw[Tr.rt (by simpa using hg),Tr.rl,if_pos hg]
theorem zaaq {l:zbs} (k time got:Int) (hl:l.Due.length≤9223372036854775807):zce l k time got=some (zsg l k time got):=by
 rw[zce,z11,Tr.rb (zto hl)]
 unfold zsg
 by_cases hg:zeg l
 ·rw[Tr.rf (by simpa using hg),if_neg (by simpa using hg),Tr.run_ite]
  obtain ⟨h1,h2,h3,h4,h5⟩:=hg
  by_cases hcl:l.Closed=true
  ·rw[if_pos hcl,if_pos hcl,Tr.rl]
  ·rw[if_neg hcl,if_neg hcl]
   by_cases hk:k < 1∨(l.Said.length:Int) < k
   ·rw[Tr.rt (by simpa using hk),Tr.rl,if_pos hk]
   ·rw[Tr.rf (by simpa using hk),if_neg hk]
    by_cases hgt:k≤got
    ·rw[Tr.rt (by simpa using hgt),Tr.rl,if_pos hgt]
    ·rw[Tr.rf (by simpa using hgt),if_neg hgt,zg (x:=k - 1) (by omega) (by omega),Tr.rg (by simp only[Sl.len];exact ⟨by omega,by omega⟩)]
     by_cases ht:time < l.Due.getD (k - 1).toNat 0
     ·rw[Tr.rt (by simpa using ht),Tr.rl,if_pos ht]
     ·rw[Tr.rf (by simpa using ht),if_neg ht,Tr.rb (zadv (l:=l) (by omega) (by omega)),Tr.rl]
 ·rw[Tr.rt (by simpa using hg),Tr.rl,if_pos hg]
theorem zaqp {l:zbs} {k:Int} {s:ByteArray} {said time:Int} (h:(zoy l k s said time).2=0) :
  zeg l∧¬ l.Closed=true∧k=l.Got+1∧k≤l.Said.length∧(l.Said.getD l.Got.toNat .empty).toList=s.toList∧time < l.Due.getD l.Got.toNat 0∧zoy l k s said time=({ l with Got:=k },0):=by
 unfold zoy at h ⊢
 by_cases h1:¬ zeg l
 ·rw[if_pos h1] at h;cases h
 rw[if_neg h1] at h ⊢
 by_cases h2:l.Closed=true
 ·rw[if_pos h2] at h;cases h
 rw[if_neg h2] at h ⊢
 by_cases h3:k≠l.Got+1
 ·rw[if_pos h3] at h;cases h
 rw[if_neg h3] at h ⊢
 by_cases h4:said < k∨(l.Said.length:Int) < k∨(l.Said.getD l.Got.toNat .empty).toList≠s.toList
 ·rw[if_pos h4] at h;cases h
 rw[if_neg h4] at h ⊢
 by_cases h5:l.Due.getD l.Got.toNat 0≤time
 ·rw[if_pos h5] at h;cases h
 rw[if_neg h5]
 simp only[not_or,Decidable.not_not] at h1 h3 h4
 exact ⟨h1,h2,h3,by omega,h4.2.2,by omega,rfl⟩
def zv (m:Int):Int→List Power→Bool
 | _,[]=>true
 | p,q::l=>decide (p < q.V)&&decide (q.V≤5)&&decide (m≤q.N)&&decide (q.N≤1125899906842624)&&zv m q.V l
def zad:Int→List Int→Bool
 | _,[]=>true
 | p,q::l=>decide (p < q)&&decide (q≤5)&&zad q l
def zgt (p:Packet):Int :=
 if p.Kind < 1∨4 < p.Kind then 3
 else if (p.Id < 1∨1099511627776 < p.Id)∨(3≤p.Kind∧(p.V < 0∨5 < p.V∨p.N < 1∨1125899906842624 < p.N)) then 2
 else if (p.Kind≤2∧(p.V≠0∨p.N≠0))∨(p.Kind≠1∧(0 < p.Set.length∨0 < p.Done.length)) then 1
 else if zv 0 (-1) p.Set=false then 2
 else if zad (-1) p.Done=false then 2
 else 0
def zj1 (l:List Power) (i:Int):Int:=if i=0 then -1 else (l.getD (i - 1).toNat default).V
def ztg (l:List Int) (i:Int):Int:=if i=0 then -1 else l.getD (i - 1).toNat 0
theorem zatq {l:List Power} {m:Int} (hl:l.length≤9223372036854775807):zt2 l m=some (zv m (-1) l):=by
 have key:∃ r,zvy l m l l.length 0=some r∧(match r with | .inl b=>b=false∧zv m (-1) l=false | .inr _=>zv m (-1) l=true):=by
  have:=zjt (F:=fun s:(List Power)×Int×(List Power)×Int×Int=>(zk1 s.1 s.2.1 s.2.2.1 s.2.2.2.1 s.2.2.2.2).run)
   (fun s=>s.1=l∧s.2.1=m∧s.2.2.1=l∧s.2.2.2.1=l.length∧0≤s.2.2.2.2∧s.2.2.2.2≤l.length ∧ -1≤zj1 l s.2.2.2.2∧(0 < s.2.2.2.2→0≤zj1 l s.2.2.2.2)) (fun s=>l.length - s.2.2.2.2.toNat)
   (fun s r=>match r with | .inl b=>b=false∧zv m (zj1 l s.2.2.2.2) (l.drop s.2.2.2.2.toNat)=false | .inr _=>zv m (zj1 l s.2.2.2.2) (l.drop s.2.2.2.2.toNat)=true) ?_ (l,m,l,(l.length:Int),0) ⟨rfl,rfl,rfl,rfl,by simp,by simp,by simp[zj1],by simp⟩
  ·exact this
  ·rintro ⟨x0,x1,x2,x3,x4⟩ ⟨h1,h2,h3,h4,h5,h6,h7,h8⟩
   simp only at h1 h2 h3 h4 h5 h6 h7 h8
   subst h1;subst h2;subst h3;subst h4
   simp only[zk1]
   by_cases hc:x4 < x2.length
   ·have hs:=z6 (l:=x2) (k:=x4.toNat) (by omega) default
    rw[Tr.rt (by simpa using hc),Tr.rg ⟨h5,hc⟩,Tr.rg (by
     intro h _
     simp only[decide_eq_true_eq] at h
     rw[zg (x:=x4 - 1) (by omega) (by omega)]
     exact ⟨⟨by omega,by simp only[Sl.len];omega⟩,trivial⟩)]
    rw[hs]
    have hp:(decide (x4 > 0)&&decide ((x2.getD (i64.wrap (x4 - 1)).toNat default).V≥(x2.getD x4.toNat default).V))=(decide (x4 > 0)&&decide (zj1 x2 x4≥(x2.getD x4.toNat default).V)):=by
     by_cases h0:x4 > 0
     ·rw[zg (x:=x4 - 1) (by omega) (by omega)]
      unfold zj1
      rw[if_neg (by omega)]
     ·simp[h0]
    rw[hp]
    generalize hq:x2.getD x4.toNat default=q at *
    by_cases hd:zj1 x2 x4 < q.V∧q.V≤5∧x1≤q.N∧q.N≤1125899906842624
    ·obtain ⟨d1,d2,d3,d4⟩:=hd
     have hw:i64.wrap (x4+1)=x4+1:=zg (by omega) (by omega)
     have hpv:zj1 x2 (x4+1)=q.V:=by unfold zj1;rw[if_neg (by omega),show x4+1 - 1=x4 by omega,hq]
     refine .inl ⟨_,by rw[Tr.rf (by simp;omega),Tr.rl,hw],⟨rfl,rfl,rfl,rfl,?_,?_,?_,?_⟩,?_,?_⟩
     ·simp only[];omega
     ·simp only[];omega
     ·simp only[];rw[hpv];omega
     ·simp only[];rw[hpv];intro _;omega
     ·simp only[];omega
     ·simp only[]
      rw[hpv,show (x4+1).toNat=x4.toNat+1 by omega]
      intro r hr
      rw[zv,decide_eq_true d1,decide_eq_true d2,decide_eq_true d3,decide_eq_true d4]
      simpa using hr
    ·refine .inr ⟨_,by rw[Tr.rt (by
      by_cases h0:x4 > 0
      ·have:=h8 h0
       simp[h0];omega
      ·have:zj1 x2 x4 = -1:=by unfold zj1;rw[if_pos (by omega)]
       simp[h0];omega),Tr.rl],?_⟩
     refine ⟨rfl,?_⟩
     rw[zv]
     simp only[Bool.and_eq_false_iff,yy8]
     omega
   ·refine .inr ⟨_,by rw[Tr.rf (by simpa using hc),Tr.rl],?_⟩
    try simp only[]
    rw[List.drop_eq_nil_of_le (by omega)];rfl
 obtain ⟨r,h1,h2⟩:=key
 rw[zt2,zw5]
 cases r with
 | inl b=>rw[Tr.ri h1,Tr.rl,h2.1,h2.2]
 | inr x=>rw[Tr.rj h1,Tr.rl,h2]
theorem za7f {p:Packet} {l:List Int} (hp:p.Done=l) (hl:l.length≤9223372036854775807) :
  ∃ r,z0q l l.length 0 p=some r∧(match r with | .inl b=>b=2∧zad (-1) l=false | .inr _=>zad (-1) l=true):=by
 have:=zjt (F:=fun s:(List Int)×Int×Int×Packet=>(zn0 s.1 s.2.1 s.2.2.1 s.2.2.2).run)
  (fun s=>s.1=l∧s.2.1=l.length∧0≤s.2.2.1∧s.2.2.1≤l.length∧s.2.2.2=p∧(0 < s.2.2.1→0≤ztg l s.2.2.1)) (fun s=>l.length - s.2.2.1.toNat)
  (fun s r=>match r with | .inl b=>b=2∧zad (ztg l s.2.2.1) (l.drop s.2.2.1.toNat)=false | .inr _=>zad (ztg l s.2.2.1) (l.drop s.2.2.1.toNat)=true) ?_ (l,(l.length:Int),0,p) ⟨rfl,rfl,by simp,by simp,rfl,by simp⟩
 ·exact this
 ·rintro ⟨x0,x1,x2,x3⟩ ⟨h1,h2,h3,h4,h5,h6⟩
  simp only at h1 h2 h3 h4 h5 h6
  rw[h1,h2,h5] at *
  simp only[zn0,hp]
  by_cases hc:x2 < l.length
  ·have hs:=z6 (l:=l) (k:=x2.toNat) (by omega) 0
   rw[Tr.rt (by simpa using hc),Tr.rg ⟨h3,hc⟩,Tr.rg (by
    intro h _
    simp only[decide_eq_true_eq] at h
    rw[zg (x:=x2 - 1) (by omega) (by omega)]
    exact ⟨⟨by omega,by simp only[Sl.len];omega⟩,trivial⟩)]
   rw[hs]
   have hp:(decide (x2 > 0)&&decide (l.getD (i64.wrap (x2 - 1)).toNat 0≥l.getD x2.toNat 0))=(decide (x2 > 0)&&decide (ztg l x2≥l.getD x2.toNat 0)):=by
    by_cases h0:x2 > 0
    ·rw[zg (x:=x2 - 1) (by omega) (by omega)]
     unfold ztg
     rw[if_neg (by omega)]
    ·simp[h0]
   rw[hp]
   generalize hq:l.getD x2.toNat 0=q at *
   by_cases hd:ztg l x2 < q∧q≤5
   ·obtain ⟨d1,d2⟩:=hd
    have hw:i64.wrap (x2+1)=x2+1:=zg (by omega) (by omega)
    have hpv:ztg l (x2+1)=q:=by unfold ztg;rw[if_neg (by omega),show x2+1 - 1=x2 by omega,hq]
    have hq0:0≤q:=by
     by_cases h0:x2 > 0
     ·have:=h6 h0;omega
     ·have:ztg l x2 = -1:=by unfold ztg;rw[if_pos (by omega)]
      omega
    refine .inl ⟨_,by rw[Tr.rf (by simp;omega),Tr.rl,hw],⟨rfl,rfl,?_,?_,rfl,?_⟩,?_,?_⟩
    ·simp only[];omega
    ·simp only[];omega
    ·simp only[];rw[hpv];intro _;omega
    ·simp only[];omega
    ·simp only[]
     rw[hpv,show (x2+1).toNat=x2.toNat+1 by omega]
     intro r hr
     rw[zad,decide_eq_true d1,decide_eq_true d2]
     simpa using hr
   ·refine .inr ⟨_,by rw[Tr.rt (by
     by_cases h0:x2 > 0
     ·have:=h6 h0
      simp[h0];omega
     ·have:ztg l x2 = -1:=by unfold ztg;rw[if_pos (by omega)]
      simp[h0];omega),Tr.rl],?_⟩
    refine ⟨rfl,?_⟩
    rw[zad]
    simp only[Bool.and_eq_false_iff,yy8]
    omega
  ·refine .inr ⟨_,by rw[Tr.rf (by simpa using hc),Tr.rl],?_⟩
   try simp only[]
   rw[List.drop_eq_nil_of_le (by omega)];rfl
theorem zaqq {l:List Power} {p:Packet} (hl:l.length≤9223372036854775807) :
  ∃ r,zsl (-1) l l.length 0 p=some r∧(match r with | .inl b=>b=2∧zv 0 (-1) l=false | .inr x=>x=p∧zv 0 (-1) l=true):=by
 have:=zjt (F:=fun s:Int×(List Power)×Int×Int×Packet=>(zhz s.1 s.2.1 s.2.2.1 s.2.2.2.1 s.2.2.2.2).run)
  (fun s=>s.2.1=l∧s.2.2.1=l.length∧0≤s.2.2.2.1∧s.2.2.2.1≤l.length∧s.2.2.2.2=p) (fun s=>l.length - s.2.2.2.1.toNat)
  (fun s r=>match r with | .inl b=>b=2∧zv 0 s.1 (l.drop s.2.2.2.1.toNat)=false | .inr x=>x=p∧zv 0 s.1 (l.drop s.2.2.2.1.toNat)=true) ?_ (-1,l,(l.length:Int),0,p) ⟨rfl,rfl,by simp,by simp,rfl⟩
 ·exact this
 ·rintro ⟨x0,x1,x2,x3,x4⟩ ⟨h1,h2,h3,h4,h5⟩
  simp only at h1 h2 h3 h4 h5
  rw[h1,h2,h5] at *
  simp only[zhz]
  by_cases hc:x3 < l.length
  ·have hs:=z6 (l:=l) (k:=x3.toNat) (by omega) default
   rw[Tr.rt (by simpa using hc),Tr.rg ⟨h3,hc⟩,hs]
   generalize hq:l.getD x3.toNat default=q at *
   by_cases hd:x0 < q.V∧q.V≤5∧0≤q.N∧q.N≤1125899906842624
   ·obtain ⟨d1,d2,d3,d4⟩:=hd
    have hw:i64.wrap (x3+1)=x3+1:=zg (by omega) (by omega)
    refine .inl ⟨_,by rw[Tr.rf (by simp;omega),Tr.rl,hw],⟨rfl,rfl,?_,?_,rfl⟩,?_,?_⟩
    ·simp only[];omega
    ·simp only[];omega
    ·simp only[];omega
    ·simp only[]
     rw[show (x3+1).toNat=x3.toNat+1 by omega]
     intro r hr
     rw[zv,decide_eq_true d1,decide_eq_true d2,decide_eq_true d3,decide_eq_true d4]
     simpa using hr
   ·refine .inr ⟨_,by rw[Tr.rt (by simp;omega),Tr.rl],?_⟩
    refine ⟨rfl,?_⟩
    rw[zv]
    simp only[Bool.and_eq_false_iff,yy8]
    omega
  ·refine .inr ⟨_,by rw[Tr.rf (by simpa using hc),Tr.rl],?_⟩
   refine ⟨rfl,?_⟩
   rw[List.drop_eq_nil_of_le (by omega)];rfl
theorem zaqr {l:List Int} (hl:l.length≤9223372036854775807) :
  ∃ r,zsm (-1) l l.length 0=some r∧(match r with | .inl b=>b=2∧zad (-1) l=false | .inr _=>zad (-1) l=true):=by
 have:=zjt (F:=fun s:Int×(List Int)×Int×Int=>(zh0 s.1 s.2.1 s.2.2.1 s.2.2.2).run)
  (fun s=>s.2.1=l∧s.2.2.1=l.length∧0≤s.2.2.2∧s.2.2.2≤l.length) (fun s=>l.length - s.2.2.2.toNat)
  (fun s r=>match r with | .inl b=>b=2∧zad s.1 (l.drop s.2.2.2.toNat)=false | .inr _=>zad s.1 (l.drop s.2.2.2.toNat)=true) ?_ (-1,l,(l.length:Int),0) ⟨rfl,rfl,by simp,by simp⟩
 ·exact this
 ·rintro ⟨x0,x1,x2,x3⟩ ⟨h1,h2,h3,h4⟩
  simp only at h1 h2 h3 h4
  rw[h1,h2] at *
  simp only[zh0]
  by_cases hc:x3 < l.length
  ·have hs:=z6 (l:=l) (k:=x3.toNat) (by omega) 0
   rw[Tr.rt (by simpa using hc),Tr.rg ⟨h3,hc⟩,hs]
   generalize hq:l.getD x3.toNat 0=q at *
   by_cases hd:x0 < q∧q≤5
   ·obtain ⟨d1,d2⟩:=hd
    have hw:i64.wrap (x3+1)=x3+1:=zg (by omega) (by omega)
    refine .inl ⟨_,by rw[Tr.rf (by simp;omega),Tr.rl,hw],⟨rfl,rfl,?_,?_⟩,?_,?_⟩
    ·simp only[];omega
    ·simp only[];omega
    ·simp only[];omega
    ·simp only[]
     rw[show (x3+1).toNat=x3.toNat+1 by omega]
     intro r hr
     rw[zad,decide_eq_true d1,decide_eq_true d2]
     simpa using hr
   ·refine .inr ⟨_,by rw[Tr.rt (by simp;omega),Tr.rl],?_⟩
    refine ⟨rfl,?_⟩
    rw[zad]
    simp only[Bool.and_eq_false_iff,yy8]
    omega
  ·refine .inr ⟨_,by rw[Tr.rf (by simpa using hc),Tr.rl],?_⟩
   try simp only[]
   rw[List.drop_eq_nil_of_le (by omega)];rfl
theorem z77 {p:Packet} (h1:p.Set.length*16≤140737488351232) (h2:p.Done.length*8≤140737488351232):zhy p=some (zgt p):=by
 rw[zhy,z12]
 unfold zgt
 by_cases c1:p.Kind < 1∨4 < p.Kind
 ·rw[Tr.rt (by simpa using c1),Tr.rl,if_pos c1]
 ·rw[Tr.rf (by simpa using c1),if_neg c1]
  by_cases c2:p.Id < 1∨1099511627776 < p.Id
  ·rw[Tr.rt (by simpa using c2),Tr.rl,if_pos (.inl c2)]
  ·rw[Tr.rf (by simpa using c2)]
   by_cases c3:3≤p.Kind∧(p.V < 0∨5 < p.V∨p.N < 1∨1125899906842624 < p.N)
   ·rw[Tr.rt (by simp;omega),Tr.rl,if_pos (.inr c3)]
   ·rw[Tr.rf (by simp;omega),if_neg (by simp only[not_or];exact ⟨by simpa using c2,c3⟩)]
    by_cases c4:(p.Kind≤2∧(p.V≠0∨p.N≠0))∨(p.Kind≠1∧(0 < p.Set.length∨0 < p.Done.length))
    ·rw[Tr.rt (by rw[zg (x:=(p.Set.length:Int)+p.Done.length) (by omega) (by omega)];simp;omega),Tr.rl,if_pos c4]
    ·rw[Tr.rf (by rw[zg (x:=(p.Set.length:Int)+p.Done.length) (by omega) (by omega)];simp;omega),if_neg c4,Tr.rb (zatq (by omega))]
     by_cases c5:zv 0 (-1) p.Set=false
     ·rw[Tr.rt (by rw[c5];rfl),Tr.rl,if_pos c5]
     ·rw[Tr.rf (by simpa using c5),if_neg c5]
      obtain ⟨r,e1,e2⟩:=za7f (p:=p) (l:=p.Done) rfl (by omega)
      cases r with
      | inl b=>rw[Tr.ri e1,Tr.rl,e2.1,if_pos e2.2]
      | inr b=>rw[Tr.rj e1,Tr.rl,if_neg (by rw[e2];simp)]
theorem zna {p:Packet} (h1:p.Set.length*16≤140737488351232) (h2:p.Done.length*8≤140737488351232):za2 p=some (zgt p):=by
 rw[za2,zrt]
 unfold zgt
 by_cases c1:p.Kind < 1∨4 < p.Kind
 ·rw[Tr.rt (by simpa using c1),Tr.rl,if_pos c1]
 ·rw[Tr.rf (by simpa using c1),if_neg c1]
  have k3:(3≤p.Kind)↔(p.Kind=3∨p.Kind=4):=by omega
  by_cases c2:(p.Id < 1∨1099511627776 < p.Id)∨(3≤p.Kind∧(p.V < 0∨5 < p.V∨p.N < 1∨1125899906842624 < p.N))
  ·rw[Tr.rt (by simp;omega),Tr.rl,if_pos c2]
  ·rw[Tr.rf (by rw[Bool.eq_false_iff];intro h;apply c2;simp at h;omega),if_neg c2]
   by_cases c4:(p.Kind≤2∧(p.V≠0∨p.N≠0))∨(p.Kind≠1∧(0 < p.Set.length∨0 < p.Done.length))
   ·rw[Tr.rt (by simp;omega),Tr.rl,if_pos c4]
   ·rw[Tr.rf (by rw[Bool.eq_false_iff];intro h;apply c4;simp at h;omega),if_neg c4]
    obtain ⟨r,e1,e2⟩:=zaqq (l:=p.Set) (p:=p) (by omega)
    cases r with
    | inl b=>rw[Tr.ri e1,Tr.rl,e2.1,if_pos e2.2]
    | inr x =>
     obtain ⟨rfl,e3⟩:=e2
     rw[Tr.rj e1,if_neg (by rw[e3];simp)]
     obtain ⟨r,e1,e2⟩:=zaqr (l:=x.Done) (by omega)
     cases r with
     | inl b=>rw[Tr.ri e1,Tr.rl,e2.1,if_pos e2.2]
     | inr b=>rw[Tr.rj e1,Tr.rl,if_neg (by rw[e2];simp)]
def byt (x:Int) (i:Nat):UInt8:=UInt8.ofNat (x.toNat / 256 ^ i)
def be (x:Int):Nat→List UInt8
 | 0=>[]
 | k+1=>byt x k::be x k
theorem zbb {x:Int}:∀ k,(be x k).length=k
 | 0=>rfl
 | k+1=>by rw[be,List.length_cons,zbb k]
theorem zaiy (y:Int):IntKind.u8.wrap y=y % 256:=by
 unfold IntKind.wrap
 simp[IntKind.bits,IntKind.signed]
theorem zatr {y:Int} (h0:0≤y) (h1:y≤9223372036854775807):u64.wrap y=y:=by
 unfold IntKind.wrap
 simp[IntKind.bits,IntKind.signed]
 omega
theorem zao2 {x:Int} (hx:0≤x) {i:Nat} (hi:i≤7) :
  (IntKind.u8.wrap (Int.fdiv x (2 ^ (min (u64.wrap (i64.wrap (8*(i:Int)))).toNat 64))))=((x.toNat / 256 ^ i % 256:Nat):Int):=by
 rw[zg (by omega) (by omega),zatr (by omega) (by omega),zaiy]
 rw[show min (8*(i:Int)).toNat 64=8*i by omega,Int.fdiv_eq_ediv_of_nonneg _ (Int.le_of_lt (Int.pow_pos (by omega)))]
 obtain ⟨n,rfl⟩:=Int.eq_ofNat_of_zero_le hx
 have h2:(2:Int) ^ (8*i)=((256 ^ i:Nat):Int):=by rw[Int.pow_mul,Int.natCast_pow];rfl
 rw[h2,yy4]
 rfl
theorem zbhh {x:Int} (hx:0≤x) {i:Nat} (hi:i≤7) :
  UInt8.ofNat (IntKind.u8.wrap (Int.fdiv x (2 ^ (min (u64.wrap (i64.wrap (8*(i:Int)))).toNat 64)))).toNat=byt x i:=by
 rw[zao2 hx hi,yy4]
 unfold byt
 apply UInt8.toNat_inj.1
 rw[UInt8.toNat_ofNat',UInt8.toNat_ofNat']
 omega
theorem zaar {x:Int} {k:Nat} {b:List UInt8} (hx:0≤x) (hk:k≤7) (hk0:0 < k) (hb:b.length+k≤140737488355328):zu x k b=some (b++be x k):=by
 have key:zt3 x (k - 1:Int) b=some (b++be x k):=by
  have:=z6t (F:=fun s:Int×Int×(List UInt8)=>(zql s.1 s.2.1 s.2.2).run)
   (fun s=>s.1=x ∧ -1≤s.2.1∧s.2.1≤6∧s.2.2.length+(s.2.1+1).toNat≤140737488355328) (fun s=>(s.2.1+1).toNat) (fun s=>s.2.2++be x (s.2.1+1).toNat) ?_ (x,(k - 1:Int),b) ⟨rfl,by simp only[];omega,by simp only[];omega,by simp only[];omega⟩
  ·rw[zt3,this];simp only[];rw[show ((k:Int) - 1+1).toNat=k by omega]
  ·rintro ⟨y,i,c⟩ ⟨h1,h2,h3,h4⟩
   simp only at h1 h2 h3 h4
   subst h1
   simp only[zql]
   by_cases hc:i≥0
   ·obtain ⟨n,rfl⟩:=Int.eq_ofNat_of_zero_le hc
    have hw:i64.wrap ((n:Int) - 1)=(n:Int) - 1:=zg (by omega) (by omega)
    refine .inl ⟨(y,(n:Int) - 1,c++[byt y n]),?_,⟨rfl,by simp only[];omega,by simp only[];omega,by simp only[yy6,yy5];omega⟩,by simp only[];omega,?_⟩
    ·rw[Tr.rt (by simp),Tr.rg (by rw[zg (by omega) (by omega),zatr (by omega) (by omega)];omega),Tr.rg (by rw[zao2 hx (by omega)];omega),zbhh hx (by omega),hw,Tr.rg (by simp only[Sl.len,yy5];omega),Tr.rl]
    ·simp only[]
     rw[show ((n:Int) - 1+1).toNat=n by omega,show ((n:Int)+1).toNat=n+1 by omega,be]
     simp
   ·refine .inr ?_
    rw[Tr.rf (by simpa using hc),Tr.rl,show (i+1).toNat=0 by omega,be,List.append_nil]
 rw[zu,z5t,zg (by omega) (by omega),Tr.rb key,Tr.rl]
theorem za7g {x:Int} (hx:0≤x) (i:Nat):byt (x / 256) i=byt x (i+1):=by
 obtain ⟨n,rfl⟩:=Int.eq_ofNat_of_zero_le hx
 unfold byt
 rw[show ((n:Int) / 256).toNat=n / 256 by omega,yy4,Nat.pow_succ',Nat.div_div_eq_div_mul]
theorem za3x {x:Int} (hx:0≤x):∀ k,be x (k+1)=be (x / 256) k++[byt x 0]
 | 0=>rfl
 | k+1=>by rw[be,za3x hx k,be,za7g hx k];rfl
theorem zp6 {m:Int} (hm:0≤m):∀ {l:List Power} {p:Int},zv m p l=true → -1≤p→∀ q,q∈l→0≤q.V∧q.V≤5∧m≤q.N∧q.N≤1125899906842624
 | [],_,_,_,q,h=>by cases h
 | a::l,p,h,hp,q,hq=>by
  rw[zv] at h
  simp only[yy7,decide_eq_true_eq] at h
  obtain ⟨⟨⟨⟨h1,h2⟩,h3⟩,h4⟩,h5⟩:=h
  rcases List.mem_cons.1 hq with rfl | hq
  ·exact ⟨by omega,h2,h3,h4⟩
  ·exact zp6 hm h5 (by omega) q hq
theorem zlb {m:Int}:∀ {l:List Power} {p:Int},zv m p l=true→p≤5→(l.length:Int)≤5 - p
 | [],p,_,hp=>by simp;omega
 | a::l,p,h,hp=>by
  rw[zv] at h
  simp only[yy7,decide_eq_true_eq] at h
  obtain ⟨⟨⟨⟨h1,h2⟩,h3⟩,h4⟩,h5⟩:=h
  have:=zlb h5 h2
  rw[List.length_cons];omega
theorem zyj:∀ {l:List Int} {p:Int},zad p l=true → -1≤p→∀ q,q∈l→0≤q∧q≤5
 | [],_,_,_,q,h=>by cases h
 | a::l,p,h,hp,q,hq=>by
  rw[zad] at h
  simp only[yy7,decide_eq_true_eq] at h
  obtain ⟨⟨h1,h2⟩,h5⟩:=h
  rcases List.mem_cons.1 hq with rfl | hq
  ·exact ⟨by omega,h2⟩
  ·exact zyj h5 (by omega) q hq
theorem zyk:∀ {l:List Int} {p:Int},zad p l=true→p≤5→(l.length:Int)≤5 - p
 | [],p,_,hp=>by simp;omega
 | a::l,p,h,hp=>by
  rw[zad] at h
  simp only[yy7,decide_eq_true_eq] at h
  obtain ⟨⟨h1,h2⟩,h5⟩:=h
  have:=zyk h5 h2
  rw[List.length_cons];omega
def encS (l:List Power):List UInt8:=l.flatMap fun q=>be q.V 1++be q.N 7
def encD (l:List Int):List UInt8:=l.flatMap fun q=>be q 1
def z6e (p:Packet):List UInt8:=be p.Kind 1++be p.Id 6++be p.V 1++be p.N 7++be p.Set.length 1++encS p.Set++be p.Done.length 1++encD p.Done
def txt (l:List UInt8):ByteArray:=⟨l.toArray⟩
theorem zb4 (l:List UInt8):(txt l).size=l.length:=rfl
theorem zyl (l m:List UInt8):txt l++txt m=txt (l++m):=by
 apply ByteArray.ext
 rw[ByteArray.data_append]
 simp[txt]
theorem ztp (l:List UInt8):(txt l).data.toList=l:=rfl
theorem zlc {x:Int} {k:Nat} (hx:0≤x) (hx1:x≤9223372036854775807) (hk:k≤7):zj x k=some (txt (be x k)):=by
 have key:zk5 x k (txt [])=some (txt (be x k)):=by
  have:=zjt (F:=fun s:Int×Int×ByteArray=>(zmh s.1 s.2.1 s.2.2).run)
   (fun s=>0≤s.1∧s.1≤9223372036854775807∧0≤s.2.1∧∃ b,s.2.2=txt b∧b.length+s.2.1.toNat≤7) (fun s=>s.2.1.toNat) (fun s r=>∀ b,s.2.2=txt b→r=txt (be s.1 s.2.1.toNat++b)) ?_ (x,(k:Int),txt []) ⟨hx,hx1,by simp only[];omega,[],rfl,by simp;omega⟩
  ·obtain ⟨r,h1,h2⟩:=this
   rw[zk5,h1,h2 [] rfl]
   simp
  ·rintro ⟨y,i,c⟩ ⟨h1,h2,h3,b,h4,h5⟩
   simp only at h1 h2 h3 h4 h5
   subst h4
   simp only[zmh]
   by_cases hc:i > 0
   ·obtain ⟨n,rfl⟩:∃ n:Nat,i=(n:Int)+1:=⟨(i - 1).toNat,by omega⟩
    have hb:IntKind.u8.wrap (Int.tmod y 256)=((y.toNat % 256:Nat):Int):=by rw[zaiy,zahy h1];omega
    have hu:UInt8.ofNat (IntKind.u8.wrap (Int.tmod y 256)).toNat=byt y 0:=by
     rw[hb,yy4]
     unfold byt
     apply UInt8.toNat_inj.1
     rw[UInt8.toNat_ofNat',UInt8.toNat_ofNat',Nat.pow_zero,Nat.div_one]
     omega
    have hd:i64.wrap (Int.tdiv y 256)=y / 256:=by rw[z5b h1,zg (by omega) (by omega)]
    have hw:i64.wrap ((n:Int)+1 - 1)=n:=by rw[zg (by omega) (by omega)];omega
    have hsz:(txt [byt y 0]).size+(txt b).size≤9223372036854775807:=by rw[zb4,zb4,yy5];omega
    refine .inl ⟨(y / 256,(n:Int),txt (byt y 0::b)),?_,⟨by simp only[];omega,by simp only[];omega,by simp only[];omega,_,rfl,by simp only[List.length_cons];omega⟩,by simp only[];omega,?_⟩
    ·rw[Tr.rt (by simp),Tr.rg (by omega),Tr.rg (by rw[hb];omega),hu,hd,hw]
     show (Tr.guard ((txt [byt y 0]).size+(txt b).size≤9223372036854775807) (.guard ((256:Int)≠0) (.leaf (Sum.inl (y / 256,(n:Int),txt [byt y 0]++txt b))))).run=_
     rw[Tr.rg hsz,Tr.rg (by omega),Tr.rl,zyl]
     rfl
    ·intro r hr b' hb'
     have e:b'=b:=by
      have:=congrArg (fun t=>t.data.toList) hb'
      simpa[txt] using this.symm
     subst e
     rw[hr _ rfl]
     try simp only[]
     rw[show ((n:Int)+1).toNat=n+1 by omega,yy4,za3x h1]
     simp
   ·refine .inr ⟨_,by rw[Tr.rf (by simpa using hc),Tr.rl],?_⟩
    intro b' hb'
    try simp only at hb'
    rw[hb']
    try simp only[]
    rw[show i.toNat=0 by omega];rfl
 rw[zj,zzt]
 rw[Tr.rb (show zk5 x k ⟨#[]⟩=some (txt (be x k)) from key),Tr.rl]
theorem z78 (q:Power) (l:List Power):encS (q::l)=be q.V 1++be q.N 7++encS l:=by simp[encS]
theorem z79 (q:Int) (l:List Int):encD (q::l)=be q 1++encD l:=by simp[encD]
theorem zp7:∀ l:List Power,(encS l).length=8*l.length
 | []=>rfl
 | q::l=>by rw[z78,yy6,yy6,zbb,zbb,zp7 l,List.length_cons];omega
theorem zadx:∀ l:List Int,(encD l).length=l.length
 | []=>rfl
 | q::l=>by rw[z79,yy6,zbb,zadx l,List.length_cons];omega
theorem za7h {l:List Power} {p:Packet} {b:List UInt8} (hq:∀ q,q∈l→0≤q.V∧q.V≤5∧0≤q.N∧q.N≤1125899906842624) (hl:l.length≤6) (hb:b.length≤1000) :
  zn1 l l.length 0 p b=some (p,b++encS l):=by
 have:=z6t (F:=fun s:(List Power)×Int×Int×Packet×(List UInt8)=>(zk2 s.1 s.2.1 s.2.2.1 s.2.2.2.1 s.2.2.2.2).run)
  (fun s=>s.1=l∧s.2.1=l.length∧0≤s.2.2.1∧s.2.2.1≤l.length∧s.2.2.2.1=p∧(s.2.2.2.2.length:Int)≤1000+8*s.2.2.1) (fun s=>l.length - s.2.2.1.toNat) (fun s=>(p,s.2.2.2.2++encS (l.drop s.2.2.1.toNat))) ?_ (l,(l.length:Int),0,p,b) ⟨rfl,rfl,by simp,by simp,rfl,by simp only[];omega⟩
 ·rw[zn1,this];rfl
 ·rintro ⟨x0,x1,i,p',c⟩ ⟨h1,h2,h3,h4,h5,h6⟩
  simp only at h1 h2 h3 h4 h5 h6
  rw[h1,h2,h5]
  simp only[zk2]
  by_cases hc:i < l.length
  ·have hs:=z6 (l:=l) (k:=i.toNat) (by omega) default
   obtain ⟨q1,q2,q3,q4⟩:=hq _ (zbk (l:=l) (k:=i.toNat) (by omega) default)
   rw[hs]
   generalize l.getD i.toNat default=q at *
   have hw:i64.wrap (i+1)=i+1:=zg (by omega) (by omega)
   have e1:=zaar (x:=q.V) (k:=1) (b:=c) q1 (by omega) (by omega) (by omega)
   have e2:=zaar (x:=q.N) (k:=7) (b:=c++be q.V 1) q3 (by omega) (by omega) (by rw[yy6,zbb];omega)
   refine .inl ⟨(l,(l.length:Int),i+1,p,c++be q.V 1++be q.N 7),?_,⟨rfl,rfl,by simp only[];omega,by simp only[];omega,rfl,by simp only[yy6,zbb];omega⟩,by simp only[];omega,?_⟩
   ·rw[Tr.rt (by simpa using hc),Tr.rg ⟨h3,hc⟩]
    rw[show zu q.V 1 c=some (c++be q.V 1) from e1,Tr.rg Option.isSome_some]
    simp only[yy2]
    rw[show zu q.N 7 (c++be q.V 1)=some (c++be q.V 1++be q.N 7) from e2,Tr.rg Option.isSome_some,Tr.rl,hw]
    rfl
   ·simp only[]
    rw[show (i+1).toNat=i.toNat+1 by omega,z78]
    simp
  ·refine .inr ?_
   rw[Tr.rf (by simpa using hc),Tr.rl]
   try simp only[]
   rw[List.drop_eq_nil_of_le (by omega)]
   simp[encS]
theorem za7i {l:List Int} {b:List UInt8} (hq:∀ q,q∈l→0≤q∧q≤5) (hl:l.length≤6) (hb:b.length≤2000) :
  zn2 l l.length 0 b=some (b++encD l):=by
 have:=z6t (F:=fun s:(List Int)×Int×Int×(List UInt8)=>(zk3 s.1 s.2.1 s.2.2.1 s.2.2.2).run)
  (fun s=>s.1=l∧s.2.1=l.length∧0≤s.2.2.1∧s.2.2.1≤l.length∧(s.2.2.2.length:Int)≤2000+s.2.2.1) (fun s=>l.length - s.2.2.1.toNat) (fun s=>s.2.2.2++encD (l.drop s.2.2.1.toNat)) ?_ (l,(l.length:Int),0,b) ⟨rfl,rfl,by simp,by simp,by simp only[];omega⟩
 ·rw[zn2,this];rfl
 ·rintro ⟨x0,x1,i,c⟩ ⟨h1,h2,h3,h4,h6⟩
  simp only at h1 h2 h3 h4 h6
  rw[h1,h2]
  simp only[zk3]
  by_cases hc:i < l.length
  ·have hs:=z6 (l:=l) (k:=i.toNat) (by omega) 0
   obtain ⟨q1,q2⟩:=hq _ (zbk (l:=l) (k:=i.toNat) (by omega) 0)
   rw[hs]
   generalize l.getD i.toNat 0=q at *
   have hw:i64.wrap (i+1)=i+1:=zg (by omega) (by omega)
   have e1:=zaar (x:=q) (k:=1) (b:=c) q1 (by omega) (by omega) (by omega)
   refine .inl ⟨(l,(l.length:Int),i+1,c++be q 1),?_,⟨rfl,rfl,by simp only[];omega,by simp only[];omega,by simp only[yy6,zbb];omega⟩,by simp only[];omega,?_⟩
   ·rw[Tr.rt (by simpa using hc),Tr.rg ⟨h3,hc⟩,Tr.rb (show zu q 1 c=some (c++be q 1) from e1),Tr.rl,hw]
   ·simp only[]
    rw[show (i+1).toNat=i.toNat+1 by omega,z79]
    simp
  ·refine .inr ?_
   rw[Tr.rf (by simpa using hc),Tr.rl]
   try simp only[]
   rw[List.drop_eq_nil_of_le (by omega)]
   simp[encD]
theorem zp8 {p:Packet} (h:zgt p=0):1≤p.Kind∧p.Kind≤4∧1≤p.Id∧p.Id≤1099511627776∧0≤p.V∧p.V≤5∧0≤p.N∧p.N≤1125899906842624∧zv 0 (-1) p.Set=true∧zad (-1) p.Done=true ∧
  (p.Kind≤2→p.V=0∧p.N=0)∧(p.Kind≠1→p.Set=[]∧p.Done=[]):=by
 unfold zgt at h
 by_cases c1:p.Kind < 1∨4 < p.Kind
 ·rw[if_pos c1] at h;cases h
 rw[if_neg c1] at h
 by_cases c2:(p.Id < 1∨1099511627776 < p.Id)∨(3≤p.Kind∧(p.V < 0∨5 < p.V∨p.N < 1∨1125899906842624 < p.N))
 ·rw[if_pos c2] at h;cases h
 rw[if_neg c2] at h
 by_cases c4:(p.Kind≤2∧(p.V≠0∨p.N≠0))∨(p.Kind≠1∧(0 < p.Set.length∨0 < p.Done.length))
 ·rw[if_pos c4] at h;cases h
 rw[if_neg c4] at h
 by_cases c5:zv 0 (-1) p.Set=false
 ·rw[if_pos c5] at h;cases h
 rw[if_neg c5] at h
 by_cases c6:zad (-1) p.Done=false
 ·rw[if_pos c6] at h;cases h
 refine ⟨by omega,by omega,by omega,by omega,by omega,by omega,by omega,by omega,by simpa using c5,by simpa using c6,fun _=>by omega,fun hk=>?_⟩
 exact ⟨List.length_eq_zero_iff.1 (by omega),List.length_eq_zero_iff.1 (by omega)⟩
def zes (p:Packet):ByteArray×Int:=if zgt p=0 then (txt (z6e p),0) else (txt [],zgt p)
theorem zady {p:Packet} (h1:p.Set.length*16≤140737488351232) (h2:p.Done.length*8≤140737488351232):zb9 p=some (zes p):=by
 rw[zb9,zw6,Tr.rb (z77 h1 h2)]
 unfold zes
 by_cases hg:zgt p=0
 ·obtain ⟨g1,g2,g3,g4,g5,g6,g7,g8,g9,g10,_,_⟩:=zp8 hg
  have l1:=zlb g9 (by omega)
  have l2:=zyk g10 (by omega)
  have hk:UInt8.ofNat (IntKind.u8.wrap p.Kind).toNat=byt p.Kind 0:=by
   rw[zaiy]
   unfold byt
   apply UInt8.toNat_inj.1
   rw[UInt8.toNat_ofNat',UInt8.toNat_ofNat',Nat.pow_zero,Nat.div_one]
   omega
  have e1:zu p.Id 6 [byt p.Kind 0]=some ([byt p.Kind 0]++be p.Id 6):=zaar (k:=6) (by omega) (by omega) (by omega) (by rw[yy5];omega)
  have e2:zu p.V 1 ([byt p.Kind 0]++be p.Id 6)=some ([byt p.Kind 0]++be p.Id 6++be p.V 1):=zaar (k:=1) (by omega) (by omega) (by omega) (by simp only[yy6,zbb,yy5];omega)
  have e3:zu p.N 7 ([byt p.Kind 0]++be p.Id 6++be p.V 1)=some ([byt p.Kind 0]++be p.Id 6++be p.V 1++be p.N 7):=zaar (k:=7) (by omega) (by omega) (by omega) (by simp only[yy6,zbb,yy5];omega)
  have e4:zu p.Set.length 1 ([byt p.Kind 0]++be p.Id 6++be p.V 1++be p.N 7)=some ([byt p.Kind 0]++be p.Id 6++be p.V 1++be p.N 7++be p.Set.length 1):=zaar (k:=1) (by omega) (by omega) (by omega) (by simp only[yy6,zbb,yy5];omega)
  have e5:=za7h (p:=p) (b:=[byt p.Kind 0]++be p.Id 6++be p.V 1++be p.N 7++be p.Set.length 1) (zp6 (by omega) g9 (by omega)) (by omega) (by simp only[yy6,zbb,yy5];omega)
  rw[Tr.rf (by simp[hg]),if_pos hg,Tr.rg (by rw[zaiy];omega),hk,e1,Tr.rg Option.isSome_some]
  simp only[yy2]
  rw[e2,Tr.rg Option.isSome_some]
  simp only[yy2]
  rw[e3,Tr.rg Option.isSome_some]
  simp only[yy2]
  rw[e4,Tr.rg Option.isSome_some]
  simp only[yy2]
  rw[Tr.rb e5]
  have hs:=zp7 p.Set
  have e6:zu p.Done.length 1 ([byt p.Kind 0]++be p.Id 6++be p.V 1++be p.N 7++be p.Set.length 1++encS p.Set)=some ([byt p.Kind 0]++be p.Id 6++be p.V 1++be p.N 7++be p.Set.length 1++encS p.Set++be p.Done.length 1):=zaar (k:=1) (by omega) (by omega) (by omega) (by simp only[yy6,zbb,yy5];omega)
  have e7:=za7i (b:=[byt p.Kind 0]++be p.Id 6++be p.V 1++be p.N 7++be p.Set.length 1++encS p.Set++be p.Done.length 1) (zyj g10 (by omega)) (by omega) (by simp only[yy6,zbb,yy5];omega)
  rw[Tr.rb (show zu (((p,[byt p.Kind 0]++be p.Id 6++be p.V 1++be p.N 7++be p.Set.length 1++encS p.Set):Packet×List UInt8).1.Done.length:Nat) 1 _=_ from e6),Tr.rb e7,Tr.rl]
  rfl
 ·rw[Tr.rt (by simpa using hg),Tr.rl,if_neg hg]
  rfl
theorem zaqs {l:List Power} {p:Packet} {b:List UInt8} (hq:∀ q,q∈l→0≤q.V∧q.V≤5∧0≤q.N∧q.N≤1125899906842624) (hl:l.length≤6) (hb:b.length≤1000) :
  zi5 (txt b) l l.length 0 p=some (txt (b++encS l),p):=by
 have:=zb7 (F:=fun s:ByteArray×(List Power)×Int×Int×Packet=>(zd0 s.1 s.2.1 s.2.2.1 s.2.2.2.1 s.2.2.2.2).run) l.length
  (fun i b=>(txt b,l,(l.length:Int),(i:Int),p)) (fun i b=>b.length≤1000+8*i) (fun i b=>(txt (b++encS (l.drop i)),p)) ?_ ?_ 0 b (by omega) (by simpa using hb)
 ·rw[zi5];exact this
 ·intro b hb
  simp only[zd0]
  rw[Tr.rf (by simp),Tr.rl,List.drop_length]
  simp[encS]
 ·intro i b hi hb
  have hs:=z6 (l:=l) (k:=i) hi default
  obtain ⟨q1,q2,q3,q4⟩:=hq _ (zbk (l:=l) (k:=i) hi default)
  simp only[zd0,yy4]
  rw[hs]
  generalize l.getD i default=q at *
  have e1:zj q.V 1=some (txt (be q.V 1)):=zlc (k:=1) q1 (by omega) (by omega)
  have e2:zj q.N 7=some (txt (be q.N 7)):=zlc (k:=7) q3 (by omega) (by omega)
  refine .inl ⟨b++(be q.V 1++be q.N 7),?_,by simp only[yy6,zbb];omega,?_⟩
  ·simp only[e1,e2,Option.isSome_some,yy2,zyl,zb4]
   rw[Tr.rt (by simpa using hi),Tr.rg ⟨by omega,by rw[zo];omega⟩,Tr.rg (by trivial),Tr.rg (by trivial),Tr.rg (by simp only[zbb];omega),
    Tr.rg (by simp only[zbb,yy6];omega),Tr.rl,zl (by omega)]
  ·rw[z78];simp
theorem zaqt {l:List Int} {b:List UInt8} (hq:∀ q,q∈l→0≤q∧q≤5) (hl:l.length≤6) (hb:b.length≤2000) :
  zi6 (txt b) l l.length 0=some (txt (b++encD l)):=by
 have:=zb7 (F:=fun s:ByteArray×(List Int)×Int×Int=>(zd1 s.1 s.2.1 s.2.2.1 s.2.2.2).run) l.length
  (fun i b=>(txt b,l,(l.length:Int),(i:Int))) (fun i b=>b.length≤2000+i) (fun i b=>txt (b++encD (l.drop i))) ?_ ?_ 0 b (by omega) (by simpa using hb)
 ·rw[zi6];exact this
 ·intro b hb
  simp only[zd1]
  rw[Tr.rf (by simp),Tr.rl,List.drop_length]
  simp[encD]
 ·intro i b hi hb
  have hs:=z6 (l:=l) (k:=i) hi 0
  obtain ⟨q1,q2⟩:=hq _ (zbk (l:=l) (k:=i) hi 0)
  simp only[zd1,yy4]
  rw[hs]
  generalize l.getD i 0=q at *
  have e1:zj q 1=some (txt (be q 1)):=zlc (k:=1) q1 (by omega) (by omega)
  refine .inl ⟨b++be q 1,?_,by simp only[yy6,zbb];omega,?_⟩
  ·rw[Tr.rt (by simpa using hi),Tr.rg ⟨by omega,by rw[zer];omega⟩,Tr.rb e1,zyl,Tr.rg (by simp only[zb4,zbb];omega),Tr.rl,zl (by omega)]
  ·rw[z79];simp
theorem z21 {p:Packet} (h1:p.Set.length*16≤140737488351232) (h2:p.Done.length*8≤140737488351232):za8 p=some (zes p):=by
 rw[za8,zn3,Tr.rb (zna h1 h2)]
 unfold zes
 by_cases hg:zgt p=0
 ·obtain ⟨g1,g2,g3,g4,g5,g6,g7,g8,g9,g10,_,_⟩:=zp8 hg
  have l1:=zlb g9 (by omega)
  have l2:=zyk g10 (by omega)
  have e1:zj p.Kind 1=some (txt (be p.Kind 1)):=zlc (k:=1) (by omega) (by omega) (by omega)
  have e2:zj p.Id 6=some (txt (be p.Id 6)):=zlc (k:=6) (by omega) (by omega) (by omega)
  have e3:zj p.V 1=some (txt (be p.V 1)):=zlc (k:=1) (by omega) (by omega) (by omega)
  have e4:zj p.N 7=some (txt (be p.N 7)):=zlc (k:=7) (by omega) (by omega) (by omega)
  have e5:zj p.Set.length 1=some (txt (be p.Set.length 1)):=zlc (k:=1) (by omega) (by omega) (by omega)
  have e6:zj p.Done.length 1=some (txt (be p.Done.length 1)):=zlc (k:=1) (by omega) (by omega) (by omega)
  have e7:=zaqs (p:=p) (b:=be p.Kind 1++be p.Id 6++be p.V 1++be p.N 7++be p.Set.length 1) (zp6 (by omega) g9 (by omega)) (by omega) (by simp only[yy6,zbb];omega)
  have e8:=zaqt (b:=be p.Kind 1++be p.Id 6++be p.V 1++be p.N 7++be p.Set.length 1++encS p.Set++be p.Done.length 1) (zyj g10 (by omega)) (by omega) (by simp only[yy6,zbb,zp7];omega)
  rw[Tr.rf (by simp[hg]),if_pos hg]
  simp only[e1,e2,e3,e4,e5,Option.isSome_some,yy2,zyl,zb4,yy6,zbb]
  iterate 9 rw[Tr.rg (by first | trivial | omega)]
  rw[Tr.rb e7]
  simp only[]
  rw[Tr.rb e6,Tr.rg (by simp only[zb4,yy6,zbb,zp7];omega),zyl,Tr.rb e8,Tr.rl]
  rfl
 ·rw[Tr.rt (by simpa using hg),Tr.rl,if_neg hg]
  rfl
theorem z3k {p:Packet} (h1:p.Set.length*16≤140737488351232) (h2:p.Done.length*8≤140737488351232):zbd p=some p:=by
 rw[zbd,zrx,Tr.rg (by rw[zo];omega),Tr.rg (by rw[zer];omega),Tr.rl]
theorem zao3 {σ ρ:Type} {F:σ→Option (σ⊕ρ)} {s s':σ} (h:F s=some (.inl s')):zbl F s=zbl F s':=by rw[zyx,h]
theorem zabr {σ ρ:Type} {F:σ→Option (σ⊕ρ)} {s:σ} {r:ρ} (h:F s=some (.inr r)):zbl F s=some r:=by rw[zyx,h]
def numF (v:Nat) (l:List UInt8):Nat:=l.foldl (fun v c=>256*v+c.toNat) v
def num (l:List UInt8):Nat:=numF 0 l
theorem zak2 (v:Nat) (c:UInt8) (l:List UInt8):numF v (c::l)=numF (256*v+c.toNat) l:=rfl
theorem zats:∀ {l:List UInt8} {v i:Nat},v < 256 ^ i→numF v l < 256 ^ (i+l.length)
 | [],v,i,h=>h
 | c::l,v,i,h=>by
  have:=zats (l:=l) (v:=256*v+c.toNat) (i:=i+1) (by have:=c.toNat_lt;rw[Nat.pow_succ'];omega)
  rw[zak2,List.length_cons,show i+(l.length+1)=i+1+l.length by omega]
  exact this
theorem zbhi {l:List UInt8} {k:Nat} (h:l.length≤k):num l < 256 ^ k:=by
 have:=zats (l:=l) (v:=0) (i:=0) (by simp)
 rw[Nat.zero_add] at this
 exact Nat.lt_of_lt_of_le this (Nat.pow_le_pow_right (by omega) h)
theorem zatt (x:Int) (i:Nat):(byt x i).toNat=x.toNat / 256 ^ i % 256:=by
 unfold byt;rw[UInt8.toNat_ofNat']
theorem zatu (x:Int):∀ (k v:Nat),numF v (be x k)=v*256 ^ k+x.toNat % 256 ^ k
 | 0,v=>by simp[be,numF,Nat.mod_one]
 | k+1,v=>by
  rw[be,zak2,zatu x k,zatt,Nat.mod_pow_succ,Nat.pow_succ',Nat.add_mul,Nat.mul_comm (x.toNat / 256 ^ k % 256),Nat.mul_comm 256 v,Nat.mul_assoc]
  omega
theorem z8a {x:Int} {k:Nat} (h0:0≤x) (h:x.toNat < 256 ^ k):((num (be x k):Nat):Int)=x:=by
 obtain ⟨n,rfl⟩:=Int.eq_ofNat_of_zero_le h0
 unfold num
 rw[zatu,Nat.zero_mul,Nat.zero_add,yy4,Nat.mod_eq_of_lt (by simpa using h)]
theorem za7j {v c:Nat} (hv:v < 281474976710656) (hc:c < 256) :
  i64.wrap (((BitVec.ofInt 64 (i64.wrap ((v:Int)*2 ^ 8)) ||| BitVec.ofInt 64 (i64.wrap ((c:Nat):Int))).toNat:Nat):Int)=((256*v+c:Nat):Int):=by
 have h1:i64.wrap ((v:Int)*2 ^ 8)=((v*256:Nat):Int):=by rw[zg (by omega) (by omega)];omega
 have h2:i64.wrap ((c:Nat):Int)=((c:Nat):Int):=zg (by omega) (by omega)
 rw[h1,h2,BitVec.ofInt_natCast,BitVec.ofInt_natCast,BitVec.toNat_or,BitVec.toNat_ofNat,BitVec.toNat_ofNat,Nat.mod_eq_of_lt (by omega),Nat.mod_eq_of_lt (by omega)]
 have h3:=Nat.shiftLeft_add_eq_or_of_lt (i:=8) (b:=c) (by omega) v
 rw[Nat.shiftLeft_eq] at h3
 rw[← h3,zg (by omega) (by omega)]
 omega
theorem z0f (s:List UInt8) (a b:Nat):(txt s).extract a b=txt ((s.drop a).take (b - a)):=by
 apply ByteArray.ext
 rw[ByteArray.data_extract]
 apply Array.toList_inj.1
 rw[Array.toList_extract]
 rfl
theorem za7k {n:Int} {l:List UInt8} {t:zgx} (hl:l.length≤7) :
  zg3 n 0 l l.length 0 t=some (n,((num l:Nat):Int),t):=by
 have:=zb7 (F:=fun s:Int×Int×(List UInt8)×Int×Int×zgx=>(zcz s.1 s.2.1 s.2.2.1 s.2.2.2.1 s.2.2.2.2.1 s.2.2.2.2.2).run) l.length
  (fun i (v:Nat)=>(n,(v:Int),l,(l.length:Int),(i:Int),t)) (fun i v=>v < 256 ^ i) (fun i v=>(n,((numF v (l.drop i):Nat):Int),t)) ?_ ?_ 0 0 (by omega) (by simp)
 ·rw[zg3];exact this
 ·intro v hv
  simp only[zcz]
  rw[Tr.rf (by simp),Tr.rl,List.drop_length]
  rfl
 ·intro i v hi hv
  have hs:=z6 (l:=l) (k:=i) hi 0
  simp only[zcz,yy4]
  have hb:(256:Nat) ^ i≤256 ^ 6:=Nat.pow_le_pow_right (by omega) (by omega)
  have hc:=(l.getD i 0).toNat_lt
  refine .inl ⟨256*v+(l.getD i 0).toNat,?_,by rw[Nat.pow_succ'];omega,?_⟩
  ·rw[Tr.rt (by simpa using hi),Tr.rg ⟨by omega,by rw[zaap];omega⟩,Tr.rg (by omega),Tr.rl,zl (by omega),za7j (by omega) (by omega)]
  ·rw[hs];rfl
theorem zak3 {n:Nat} {s:List UInt8} {b:Bool} (hn:n≤7) (hs:s.length≤140737488355328) :
  zh n ⟨txt s,b⟩=some (if s.length < n then ((0:Int),(⟨txt [],true⟩:zgx)) else (((num (s.take n):Nat):Int),(⟨txt (s.drop n),b⟩:zgx))):=by
 rw[zh,zli]
 simp only[zb4,yy4]
 by_cases h:s.length < n
 ·rw[if_pos h,Tr.rt (by simpa using h),Tr.rl];rfl
 ·rw[if_neg h,Tr.rf (by simp;omega),Tr.rg (by omega),z0f,Nat.sub_zero,List.drop_zero,Tr.rg (by rw[zb4,List.length_take];omega),ztp,
   Tr.rb (za7k (by rw[List.length_take];omega))]
  simp only[zb4,yy4]
  rw[Tr.rg (by omega),Tr.rl,z0f,List.take_of_length_le (l:=s.drop n) (Nat.le_of_eq List.length_drop)]
theorem zee {n:Nat} {m:Int} (hm:m=n) {s:List UInt8} {b:Bool} (hn:n≤7) (hs:s.length≤140737488355328) (h:n≤s.length) :
  zh m ⟨txt s,b⟩=some (((num (s.take n):Nat):Int),(⟨txt (s.drop n),b⟩:zgx)):=by
 rw[hm,zak3 hn hs,if_neg (by omega)]
theorem ze6 {n:Nat} {m:Int} (hm:m=n) {s:List UInt8} {b:Bool} (hn:n≤7) (hs:s.length≤140737488355328) (h:s.length < n) :
  zh m ⟨txt s,b⟩=some ((0:Int),(⟨txt [],true⟩:zgx)):=by
 rw[hm,zak3 hn hs,if_pos h]
def rdS:Nat→List UInt8→List Power
 | 0,_=>[]
 | n+1,s=>⟨(num (s.take 1):Nat),(num ((s.drop 1).take 7):Nat)⟩::rdS n (s.drop 8)
def rdD:Nat→List UInt8→List Int
 | 0,_=>[]
 | n+1,s=>((num (s.take 1):Nat):Int)::rdD n (s.drop 1)
theorem z6f (x:Int) (p0 p:Packet):zbh x p0 ⟨txt [],true⟩ p=some (p0,⟨txt [],true⟩,p):=by
 rw[zbh]
 refine zabr ?_
 simp only[zg4]
 rw[Tr.rf (by simp),Tr.rl]
theorem z0g (x:Int) (p0 p:Packet):zbi x p0 ⟨txt [],true⟩ p=some (p0,⟨txt [],true⟩,p):=by
 rw[zbi]
 refine zabr ?_
 simp only[zg5]
 rw[Tr.rf (by simp),Tr.rl]
theorem zatv {p0:Packet}:∀ (k:Nat) {s:List UInt8} {p:Packet},s.length≤140737488355328→p.Set.length+k≤1000 →
  ∃ r:zgx×Packet,zbh k p0 ⟨txt s,false⟩ p=some (p0,r.1,r.2) ∧
   (if 8*k≤s.length then r=(⟨txt (s.drop (8*k)),false⟩,{ p with Set:=p.Set++rdS k s }) else r.1=⟨txt [],true⟩)
 | 0,s,p,hs,hp=>by
  refine ⟨(⟨txt s,false⟩,p),?_,?_⟩
  ·rw[zbh]
   refine zabr ?_
   simp only[zg4]
   rw[Tr.rf (by simp),Tr.rl]
  ·rw[if_pos (by omega)];try simp[rdS]
 | k+1,s,p,hs,hp=>by
  have hw:i64.wrap (((k+1:Nat):Int) - 1)=(k:Int):=by rw[zg (by omega) (by omega)];omega
  have key:∀ (v1:Int) (t1:zgx) (v2:Int) (t2:zgx),zh 1 ⟨txt s,false⟩=some (v1,t1)→zh 7 t1=some (v2,t2) →
    zbh (k+1:Nat) p0 ⟨txt s,false⟩ p=zbh k p0 t2 { p with Set:=p.Set++[⟨v1,v2⟩] }:=by
   intro v1 t1 v2 t2 e1 e2
   rw[zbh,zbh]
   refine zao3 ?_
   simp only[zg4]
   rw[Tr.rt (by first | (simp;omega) | simp),Tr.rb e1]
   simp only[e2,Option.isSome_some,yy2,hw]
   rw[Tr.rg (by trivial),Tr.rg (by simp only[zo,yy5];omega),Tr.rl]
  by_cases h1:s.length < 1
  ·rw[key 0 ⟨txt [],true⟩ 0 ⟨txt [],true⟩ (ze6 (m:=1) (n:=1) rfl (by omega) hs h1) (ze6 (m:=7) (n:=7) rfl (by omega) (by simp) (by simp))]
   exact ⟨(⟨txt [],true⟩,_),z6f _ _ _,by rw[if_neg (by omega)]⟩
  ·by_cases h2:s.length < 8
   ·rw[key _ _ 0 ⟨txt [],true⟩ (zee (m:=1) (n:=1) rfl (by omega) hs (by omega)) (ze6 (m:=7) (n:=7) rfl (by omega) (by rw[List.length_drop];omega) (by rw[List.length_drop];omega))]
    exact ⟨(⟨txt [],true⟩,_),z6f _ _ _,by rw[if_neg (by omega)]⟩
   ·have e2:=zee (m:=7) (n:=7) rfl (s:=s.drop 1) (b:=false) (by omega) (by rw[List.length_drop];omega) (by rw[List.length_drop];omega)
    rw[key _ _ _ _ (zee (m:=1) (n:=1) rfl (by omega) hs (by omega)) e2,List.drop_drop]
    obtain ⟨r,q1,q2⟩:=zatv (p0:=p0) k (s:=s.drop (1+7)) (p:={ p with Set:=p.Set++[⟨(num (s.take 1):Nat),(num ((s.drop 1).take 7):Nat)⟩] }) (by rw[List.length_drop];omega) (by simp only[yy6,yy5];omega)
    refine ⟨r,q1,?_⟩
    rw[List.length_drop] at q2
    by_cases h3:8*(k+1)≤s.length
    ·rw[if_pos h3]
     rw[if_pos (by omega)] at q2
     rw[q2,List.drop_drop,show 1+7+8*k=8*(k+1) by omega]
     simp[rdS]
    ·rw[if_neg h3]
     rwa [if_neg (by omega)] at q2
theorem zatw {p0:Packet}:∀ (k:Nat) {s:List UInt8} {p:Packet},s.length≤140737488355328→p.Done.length+k≤1000 →
  ∃ r:zgx×Packet,zbi k p0 ⟨txt s,false⟩ p=some (p0,r.1,r.2) ∧
   (if k≤s.length then r=(⟨txt (s.drop k),false⟩,{ p with Done:=p.Done++rdD k s }) else r.1=⟨txt [],true⟩)
 | 0,s,p,hs,hp=>by
  refine ⟨(⟨txt s,false⟩,p),?_,?_⟩
  ·rw[zbi]
   refine zabr ?_
   simp only[zg5]
   rw[Tr.rf (by simp),Tr.rl]
  ·rw[if_pos (by omega)];try simp[rdD]
 | k+1,s,p,hs,hp=>by
  have hw:i64.wrap (((k+1:Nat):Int) - 1)=(k:Int):=by rw[zg (by omega) (by omega)];omega
  have key:∀ (v1:Int) (t1:zgx),zh 1 ⟨txt s,false⟩=some (v1,t1) →
    zbi (k+1:Nat) p0 ⟨txt s,false⟩ p=zbi k p0 t1 { p with Done:=p.Done++[v1] }:=by
   intro v1 t1 e1
   rw[zbi,zbi]
   refine zao3 ?_
   simp only[zg5]
   rw[Tr.rt (by first | (simp;omega) | simp)]
   simp only[e1,Option.isSome_some,yy2,hw]
   rw[Tr.rg (by trivial),Tr.rg (by simp only[zer,yy5];omega),Tr.rl]
  by_cases h1:s.length < 1
  ·rw[key 0 ⟨txt [],true⟩ (ze6 (m:=1) (n:=1) rfl (by omega) hs h1)]
   exact ⟨(⟨txt [],true⟩,_),z0g _ _ _,by rw[if_neg (by omega)]⟩
  ·rw[key _ _ (zee (m:=1) (n:=1) rfl (by omega) hs (by omega))]
   obtain ⟨r,q1,q2⟩:=zatw (p0:=p0) k (s:=s.drop 1) (p:={ p with Done:=p.Done++[((num (s.take 1):Nat):Int)] }) (by rw[List.length_drop];omega) (by simp only[yy6,yy5];omega)
   refine ⟨r,q1,?_⟩
   rw[List.length_drop] at q2
   by_cases h3:k+1≤s.length
   ·rw[if_pos h3]
    rw[if_pos (by omega)] at q2
    rw[q2,List.drop_drop,show 1+k=k+1 by omega]
    simp[rdD]
   ·rw[if_neg h3]
    rwa [if_neg (by omega)] at q2
def cnt (s:List UInt8):Nat:=num ((s.drop 15).take 1)
def cnt2 (s:List UInt8):Nat:=num ((s.drop (16+8*cnt s)).take 1)
def pkt (s:List UInt8):Packet :=
 ⟨(num (s.take 1):Nat),(num ((s.drop 1).take 6):Nat),(num ((s.drop 7).take 1):Nat),(num ((s.drop 8).take 7):Nat),rdS (cnt s) (s.drop 16),rdD (cnt2 s) (s.drop (17+8*cnt s))⟩
def zbhj:Packet:=⟨0,0,0,0,[],[]⟩
def zaz (s:List UInt8):Packet×Int :=
 if s.length≠17+8*cnt s+cnt2 s then (zbhj,1) else if zgt (pkt s)≠0 then (zbhj,zgt (pkt s)) else (pkt s,0)
theorem znk {l:List UInt8}:num (l.take 1) < 256:=zbhi (k:=1) (by rw[List.length_take];omega)
theorem z9r:∀ (k:Nat) (s:List UInt8),(rdS k s).length=k
 | 0,_=>rfl
 | k+1,s=>by rw[rdS,List.length_cons,z9r k]
theorem z9s:∀ (k:Nat) (s:List UInt8),(rdD k s).length=k
 | 0,_=>rfl
 | k+1,s=>by rw[rdD,List.length_cons,z9s k]
theorem z22 {n k:Nat} {m:Int} (hm:m=n) (h1:1≤n) (hn:n≤7) {t:zgx} (ht:t=⟨txt [],true⟩∨∃ s,t=⟨txt s,false⟩∧s.length < n+k∧s.length≤1000) :
  ∃ v t',zh m t=some (v,t')∧(t'=⟨txt [],true⟩∨∃ s,t'=⟨txt s,false⟩∧s.length < k∧s.length≤1000):=by
 rcases ht with rfl | ⟨s,rfl,h2,h3⟩
 ·exact ⟨_,_,ze6 hm hn (by simp) (by simp;omega),.inl rfl⟩
 ·by_cases h:s.length < n
  ·exact ⟨_,_,ze6 hm hn (by omega) h,.inl rfl⟩
  ·exact ⟨_,_,zee hm hn (by omega) (by omega),.inr ⟨_,rfl,by rw[List.length_drop];omega,by rw[List.length_drop];omega⟩⟩
theorem zak4 {s:List UInt8} (hs:s.length≤140737488355328):zg6 (txt s)=some (zaz s):=by
 rw[zg6,zw7]
 by_cases h16:16≤s.length
 ·have e1:zh 1 ⟨txt s,false⟩=some (((num (s.take 1):Nat):Int),(⟨txt (s.drop 1),false⟩:zgx)):=zee (n:=1) rfl (by omega) hs (by omega)
  have e2:zh 6 ⟨txt (s.drop 1),false⟩=some (((num ((s.drop 1).take 6):Nat):Int),(⟨txt (s.drop 7),false⟩:zgx)):=by
   have h:=zee (n:=6) (m:=6) rfl (s:=s.drop 1) (b:=false) (by omega) (by rw[List.length_drop];omega) (by rw[List.length_drop];omega)
   rwa [List.drop_drop] at h
  have e3:zh 1 ⟨txt (s.drop 7),false⟩=some (((num ((s.drop 7).take 1):Nat):Int),(⟨txt (s.drop 8),false⟩:zgx)):=by
   have h:=zee (n:=1) (m:=1) rfl (s:=s.drop 7) (b:=false) (by omega) (by rw[List.length_drop];omega) (by rw[List.length_drop];omega)
   rwa [List.drop_drop] at h
  have e4:zh 7 ⟨txt (s.drop 8),false⟩=some (((num ((s.drop 8).take 7):Nat):Int),(⟨txt (s.drop 15),false⟩:zgx)):=by
   have h:=zee (n:=7) (m:=7) rfl (s:=s.drop 8) (b:=false) (by omega) (by rw[List.length_drop];omega) (by rw[List.length_drop];omega)
   rwa [List.drop_drop] at h
  have e5:zh 1 ⟨txt (s.drop 15),false⟩=some (((cnt s:Nat):Int),(⟨txt (s.drop 16),false⟩:zgx)):=by
   have h:=zee (n:=1) (m:=1) rfl (s:=s.drop 15) (b:=false) (by omega) (by rw[List.length_drop];omega) (by rw[List.length_drop];omega)
   rwa [List.drop_drop] at h
  obtain ⟨r,f1,f2⟩:=zatv (p0:=⟨0,0,0,0,[],[]⟩) (cnt s) (s:=s.drop 16) (p:=⟨(num (s.take 1):Nat),(num ((s.drop 1).take 6):Nat),(num ((s.drop 7).take 1):Nat),(num ((s.drop 8).take 7):Nat),[],[]⟩)
   (by rw[List.length_drop];omega) (by have:cnt s < 256:=znk;simp only[List.length_nil];omega)
  rw[Tr.rb e1,Tr.rb e2,Tr.rb e3,Tr.rb e4,Tr.rb e5,Tr.rb f1]
  rw[List.length_drop] at f2
  unfold zaz
  by_cases h8:8*cnt s≤s.length - 16
  ·rw[if_pos h8,List.drop_drop] at f2
   rw[f2]
   simp only[List.nil_append]
   by_cases h1:s.length < 17+8*cnt s
   ·rw[Tr.rb (ze6 (m:=1) (n:=1) rfl (by omega) (by rw[List.length_drop];omega) (by rw[List.length_drop];omega)),Tr.rb (z0g _ _ _),Tr.rt (by simp),Tr.rl,if_pos (by omega)]
    rfl
   ·have e6:zh 1 ⟨txt (s.drop (16+8*cnt s)),false⟩=some (((cnt2 s:Nat):Int),(⟨txt (s.drop (17+8*cnt s)),false⟩:zgx)):=by
     have h:=zee (n:=1) (m:=1) rfl (s:=s.drop (16+8*cnt s)) (b:=false) (by omega) (by rw[List.length_drop];omega) (by rw[List.length_drop];omega)
     rwa [List.drop_drop,show 16+8*cnt s+1=17+8*cnt s by omega] at h
    rw[Tr.rb e6]
    obtain ⟨r',g1,g2⟩:=zatw (p0:=⟨0,0,0,0,[],[]⟩) (cnt2 s) (s:=s.drop (17+8*cnt s)) (p:=⟨(num (s.take 1):Nat),(num ((s.drop 1).take 6):Nat),(num ((s.drop 7).take 1):Nat),(num ((s.drop 8).take 7):Nat),rdS (cnt s) (s.drop 16),[]⟩)
     (by rw[List.length_drop];omega) (by have:cnt2 s < 256:=znk;simp only[List.length_nil];omega)
    rw[Tr.rb g1]
    rw[List.length_drop] at g2
    by_cases h2:cnt2 s≤s.length - (17+8*cnt s)
    ·rw[if_pos h2,List.drop_drop] at g2
     rw[g2]
     simp only[List.nil_append,ByteArray.toList_eq,ztp]
     by_cases h3:s.length≠17+8*cnt s+cnt2 s
     ·rw[if_pos h3,Tr.rt (by simp;omega),Tr.rl]
      rfl
     ·rw[if_neg h3,Tr.rf (by simp;omega)]
      refine (Tr.rb (z77 (p:=pkt s) (by rw[pkt,z9r];have:cnt s < 256:=znk;omega) (by rw[pkt,z9s];have:cnt2 s < 256:=znk;omega))).trans ?_
      by_cases h4:zgt (pkt s)=0
      ·rw[if_neg (by simpa using h4),Tr.rf (by simpa using h4),Tr.rl];rfl
      ·rw[if_pos h4,Tr.rt (by simpa using h4),Tr.rl];rfl
    ·rw[if_neg h2] at g2
     rw[g2,Tr.rt (by simp),Tr.rl,if_pos (by omega)]
     rfl
  ·rw[if_neg h8] at f2
   rw[f2,Tr.rb (ze6 (m:=1) (n:=1) rfl (by omega) (by simp) (by simp)),Tr.rb (z0g _ _ _),Tr.rt (by simp),Tr.rl,if_pos (by omega)]
   rfl
 ·obtain ⟨v1,t1,e1,k1⟩:=z22 (m:=1) (n:=1) rfl (k:=15) (by omega) (by omega) (.inr ⟨s,rfl,by omega,by omega⟩)
  obtain ⟨v2,t2,e2,k2⟩:=z22 (m:=6) (n:=6) rfl (k:=9) (by omega) (by omega) k1
  obtain ⟨v3,t3,e3,k3⟩:=z22 (m:=1) (n:=1) rfl (k:=8) (by omega) (by omega) k2
  obtain ⟨v4,t4,e4,k4⟩:=z22 (m:=7) (n:=7) rfl (k:=1) (by omega) (by omega) k3
  obtain ⟨v5,t5,e5,k5⟩:=z22 (m:=1) (n:=1) rfl (k:=0) (by omega) (by omega) k4
  obtain rfl:t5=⟨txt [],true⟩:=by rcases k5 with h | ⟨_,_,h,_⟩;exact h;omega
  rw[Tr.rb e1,Tr.rb e2,Tr.rb e3,Tr.rb e4,Tr.rb e5,Tr.rb (z6f _ _ _),
   Tr.rb (ze6 (m:=1) (n:=1) rfl (by omega) (by simp) (by simp)),Tr.rb (z0g _ _ _),Tr.rt (by simp),Tr.rl]
  unfold zaz
  rw[if_pos (by omega)]
  rfl
theorem zym {s:List UInt8} {k:Nat} (h:k < s.length):(s.getD k 0).toNat=num ((s.drop k).take 1):=by
 rw[z6 h 0]
 simp[num,numF]
theorem z6g {l:List UInt8} (hl:l.length≤7):zc0 (txt l)=some ((num l:Nat):Int):=by
 have:=zb7 (F:=fun s:Int×(List UInt8)×Int×Int=>(zg7 s.1 s.2.1 s.2.2.1 s.2.2.2).run) l.length
  (fun i (v:Nat)=>((v:Int),l,(l.length:Int),(i:Int))) (fun i v=>v < 256 ^ i) (fun i v=>((numF v (l.drop i):Nat):Int)) ?_ ?_ 0 0 (by omega) (by simp)
 ·rw[zc0,zw9,Tr.rg (by rw[zb4];omega),ztp]
  refine (Tr.rb (v:=((num l:Nat):Int)) ?_).trans (Tr.rl _)
  rw[zvz];exact this
 ·intro v hv
  simp only[zg7]
  rw[Tr.rf (by simp),Tr.rl,List.drop_length]
  rfl
 ·intro i v hi hv
  have hs:=z6 (l:=l) (k:=i) hi 0
  simp only[zg7,yy4]
  have hb:(256:Nat) ^ i≤256 ^ 6:=Nat.pow_le_pow_right (by omega) (by omega)
  have hc:=(l.getD i 0).toNat_lt
  refine .inl ⟨256*v+(l.getD i 0).toNat,?_,by rw[Nat.pow_succ'];omega,?_⟩
  ·rw[Tr.rt (by simpa using hi),Tr.rg ⟨by omega,by rw[zaap];omega⟩,Tr.rl,zl (by omega),zg (x:=256*(v:Int)) (by omega) (by omega),zg (x:=(((l.getD i 0).toNat:Nat):Int)) (by omega) (by omega),zg (by omega) (by omega)]
   rw[show (256*(v:Int)+(((l.getD i 0).toNat:Nat):Int))=((256*v+(l.getD i 0).toNat:Nat):Int) by omega]
  ·rw[hs];rfl
theorem zao4 (n:Nat) (s:List UInt8):rdS (n+1) s=⟨(num (s.take 1):Nat),(num ((s.drop 1).take 7):Nat)⟩::rdS n (s.drop 8):=rfl
theorem zao5 (n:Nat) (s:List UInt8):rdD (n+1) s=((num (s.take 1):Nat):Int)::rdD n (s.drop 1):=rfl
theorem zaqu {s:List UInt8} {n:Nat} {x2:Int} {p4 p5 p6:Packet} (hs:16+8*n≤s.length) (hn:n < 256) (hp:p6.Set=[]) (hl:s.length≤140737488355328) :
  zi7 (txt s) n x2 0 p4 p5 p6=some (txt s,(n:Int),x2,p4,p5,{ p6 with Set:=rdS n (s.drop 16) }):=by
 have:=zb7 (F:=fun s:ByteArray×Int×Int×Int×Packet×Packet×Packet=>(zd2 s.1 s.2.1 s.2.2.1 s.2.2.2.1 s.2.2.2.2.1 s.2.2.2.2.2.1 s.2.2.2.2.2.2).run) n
  (fun i (p:Packet)=>(txt s,(n:Int),x2,(i:Int),p4,p5,p)) (fun i p=>p.Set.length=i) (fun i p=>(txt s,(n:Int),x2,p4,p5,{ p with Set:=p.Set++rdS (n - i) (s.drop (16+8*i)) })) ?_ ?_ 0 p6 (by omega) (by rw[hp];rfl)
 ·rw[zi7]
  rw[hp] at this
  exact this
 ·intro p hp
  simp only[zd2]
  rw[Tr.rf (by simp),Tr.rl,Nat.sub_self,rdS,List.append_nil]
 ·intro i p hi hp
  have w1:i64.wrap (8*(i:Int))=8*(i:Int):=zg (by omega) (by omega)
  have w2:i64.wrap (16+8*(i:Int))=((16+8*i:Nat):Int):=by rw[zg (by omega) (by omega)];omega
  have w3:i64.wrap (((16+8*i:Nat):Int)+1)=((17+8*i:Nat):Int):=by rw[zg (by omega) (by omega)];omega
  have w4:i64.wrap (((16+8*i:Nat):Int)+8)=((24+8*i:Nat):Int):=by rw[zg (by omega) (by omega)];omega
  have hb:=zym (s:=s) (k:=16+8*i) (by omega)
  have hc:=(s.getD (16+8*i) 0).toNat_lt
  have e1:=z6g (l:=(s.drop (17+8*i)).take (24+8*i - (17+8*i))) (by rw[List.length_take];omega)
  simp only[zd2,w1,w2,w3,w4,yy4,zb4,ztp,z0f,e1,Option.isSome_some,yy2]
  rw[zg (x:=(((s.getD (16+8*i) 0).toNat:Nat):Int)) (by omega) (by omega),hb]
  refine .inl ⟨{ p with Set:=p.Set++[⟨(num ((s.drop (16+8*i)).take 1):Nat),(num ((s.drop (17+8*i)).take (24+8*i - (17+8*i))):Nat)⟩] },?_,by simp only[yy6,yy5];omega,?_⟩
  ·rw[Tr.rt (by simpa using hi),Tr.rg (by omega),Tr.rg (by omega),Tr.rg (by trivial),Tr.rg (by simp only[zo,yy5];omega),Tr.rl,zl (by omega)]
  ·rw[show n - i=(n - (i+1))+1 by omega,zao4,List.drop_drop,List.drop_drop,show 16+8*i+1=17+8*i by omega,show 16+8*i+8=16+8*(i+1) by omega,show 24+8*i - (17+8*i)=7 by omega]
   simp
theorem zaqv {s:List UInt8} {n m:Nat} {p4 p5 p6:Packet} (hs:17+8*n+m≤s.length) (hn:n < 256) (hm:m < 256) (hp:p6.Done=[]) (hl:s.length≤140737488355328) :
  zi8 (txt s) n m 0 p4 p5 p6=some (p4,p5,{ p6 with Done:=rdD m (s.drop (17+8*n)) }):=by
 have:=zb7 (F:=fun s:ByteArray×Int×Int×Int×Packet×Packet×Packet=>(zd3 s.1 s.2.1 s.2.2.1 s.2.2.2.1 s.2.2.2.2.1 s.2.2.2.2.2.1 s.2.2.2.2.2.2).run) m
  (fun i (p:Packet)=>(txt s,(n:Int),(m:Int),(i:Int),p4,p5,p)) (fun i p=>p.Done.length=i) (fun i p=>(p4,p5,{ p with Done:=p.Done++rdD (m - i) (s.drop (17+8*n+i)) })) ?_ ?_ 0 p6 (by omega) (by rw[hp];rfl)
 ·rw[zi8]
  rw[hp] at this
  exact this
 ·intro p hp
  simp only[zd3]
  rw[Tr.rf (by simp),Tr.rl,Nat.sub_self,rdD,List.append_nil]
 ·intro i p hi hp
  have w1:i64.wrap (8*(n:Int))=8*(n:Int):=zg (by omega) (by omega)
  have w2:i64.wrap (17+8*(n:Int))=17+8*(n:Int):=zg (by omega) (by omega)
  have w3:i64.wrap (17+8*(n:Int)+(i:Int))=((17+8*n+i:Nat):Int):=by rw[zg (by omega) (by omega)];omega
  have hb:=zym (s:=s) (k:=17+8*n+i) (by omega)
  have hc:=(s.getD (17+8*n+i) 0).toNat_lt
  simp only[zd3,w1,w2,w3,yy4,zb4,ztp]
  rw[zg (x:=(((s.getD (17+8*n+i) 0).toNat:Nat):Int)) (by omega) (by omega),hb]
  refine .inl ⟨{ p with Done:=p.Done++[((num ((s.drop (17+8*n+i)).take 1):Nat):Int)] },?_,by simp only[yy6,yy5];omega,?_⟩
  ·rw[Tr.rt (by simpa using hi),Tr.rg (by omega),Tr.rg (by simp only[zer,yy5];omega),Tr.rl,zl (by omega)]
  ·rw[show m - i=(m - (i+1))+1 by omega,zao5,List.drop_drop,show 17+8*n+i+1=17+8*n+(i+1) by omega]
   simp
theorem zaas {s:List UInt8} (hs:s.length≤140737488355328):zds (txt s)=some (zaz s):=by
 rw[zds,zn4]
 unfold zaz
 simp only[ztp,z0f]
 by_cases h17:s.length < 17
 ·rw[Tr.rt (decide_eq_true (by simp only[zb4];omega)),Tr.rl,if_pos (by omega)];rfl
 ·have hn:cnt s < 256:=znk
  have hm:cnt2 s < 256:=znk
  have b15:(s.getD 15 0).toNat=cnt s:=zym (by omega)
  have w0:i64.wrap ((cnt s:Nat):Int)=(cnt s:Int):=zg (by omega) (by omega)
  have w1:i64.wrap (8*(cnt s:Int))=8*(cnt s:Int):=zg (by omega) (by omega)
  have w2:i64.wrap (17+8*(cnt s:Int))=((17+8*cnt s:Nat):Int):=by rw[zg (by omega) (by omega)];omega
  have w3:i64.wrap (16+8*(cnt s:Int))=((16+8*cnt s:Nat):Int):=by rw[zg (by omega) (by omega)];omega
  simp only[b15,w0,w1,w2,w3,yy4]
  rw[Tr.rf (decide_eq_false (by simp only[zb4];omega)),Tr.rg (by simp only[zb4];omega)]
  by_cases h8:s.length < 17+8*cnt s
  ·rw[Tr.rt (decide_eq_true (by simp only[zb4];omega)),Tr.rl,if_pos (by omega)];rfl
  ·have b16:(s.getD (16+8*cnt s) 0).toNat=cnt2 s:=zym (by omega)
   have w4:i64.wrap ((cnt2 s:Nat):Int)=(cnt2 s:Int):=zg (by omega) (by omega)
   have w5:i64.wrap (((17+8*cnt s:Nat):Int)+(cnt2 s:Int))=((17+8*cnt s+cnt2 s:Nat):Int):=by rw[zg (by omega) (by omega)];omega
   simp only[b16,w4,w5]
   rw[Tr.rf (decide_eq_false (by simp only[zb4];omega)),Tr.rg (by simp only[zb4];omega)]
   by_cases hl:s.length≠17+8*cnt s+cnt2 s
   ·rw[Tr.rt (bne_iff_ne.2 (by simp only[zb4];omega)),Tr.rl,if_pos hl];rfl
   ·have b0:(s.getD 0 0).toNat=num (s.take 1):=zym (k:=0) (by omega)
    have b7:(s.getD 7 0).toNat=num ((s.drop 7).take 1):=zym (by omega)
    have e1:=z6g (l:=(s.drop 1).take (7 - 1)) (by rw[List.length_take];omega)
    have e2:=z6g (l:=(s.drop 8).take (15 - 8)) (by rw[List.length_take];omega)
    have n0:num (s.take 1) < 256:=znk
    have n7:num ((s.drop 7).take 1) < 256:=znk
    simp only[e1,e2,b0,b7,Option.isSome_some,yy2]
    rw[if_neg hl,Tr.rf (bne_eq_false_iff_eq.2 (by simp only[zb4];omega)),Tr.rg (by simp only[zb4];omega),Tr.rg (by simp only[zb4];omega),Tr.rg (by trivial),Tr.rg (by simp only[zb4];omega),Tr.rg (by simp only[zb4];omega),Tr.rg (by trivial),
     zg (x:=((num (s.take 1):Nat):Int)) (by omega) (by omega),zg (x:=((num ((s.drop 7).take 1):Nat):Int)) (by omega) (by omega)]
    rw[Tr.rb (zaqu (n:=cnt s) (by omega) hn rfl hs)]
    simp only[]
    rw[Tr.rb (zaqv (n:=cnt s) (m:=cnt2 s) (by omega) hn hm rfl hs)]
    refine (Tr.rb (zna (p:=pkt s) (by rw[pkt,z9r];omega) (by rw[pkt,z9s];omega))).trans ?_
    by_cases h4:zgt (pkt s)=0
    ·rw[if_neg (by simpa using h4),Tr.rf (by simpa using h4),Tr.rl];rfl
    ·rw[if_pos h4,Tr.rt (by simpa using h4),Tr.rl];rfl
theorem zadz {p:Packet} (h1:p.Set.length≤9223372036854775807) (h2:p.Done.length≤9223372036854775807):zfb p p=some true:=by
 obtain ⟨r,e1,e2⟩:=zads (a:=p.Set) (b:=p.Set) h1
 obtain rfl:r=true:=e2.2 rfl
 rw[zfb,zrv]
 simp only[e1,zaiu h2,Option.isSome_some,yy2]
 rw[Tr.rg (by simp),Tr.rg (by simp),Tr.rl]
 simp
theorem z0h {x:Int} {k:Nat} {r:List UInt8}:(be x k++r).take k=be x k:=List.take_left' (zbb k)
theorem zxv {x:Int} {k:Nat} {r:List UInt8}:(be x k++r).drop k=r:=List.drop_left' (zbb k)
theorem zatx:∀ (l:List Power) (e:List UInt8),(∀ q,q∈l→0≤q.V∧q.V≤5∧0≤q.N∧q.N≤1125899906842624)→rdS l.length (encS l++e)=l
 | [],e,h=>rfl
 | q::l,e,h=>by
  obtain ⟨h1,h2,h3,h4⟩:=h q (List.mem_cons_self ..)
  have ih:=zatx l e (fun x hx=>h x (List.mem_cons_of_mem _ hx))
  rw[List.length_cons,zao4,z78,List.append_assoc,List.append_assoc,z0h,zxv,z0h,show 8=1+7 from rfl,← List.drop_drop,zxv,zxv,ih,z8a h1 (by omega),z8a h3 (by omega)]
theorem zaty:∀ (l:List Int) (e:List UInt8),(∀ q,q∈l→0≤q∧q≤5)→rdD l.length (encD l++e)=l
 | [],e,h=>rfl
 | q::l,e,h=>by
  obtain ⟨h1,h2⟩:=h q (List.mem_cons_self ..)
  have ih:=zaty l e (fun x hx=>h x (List.mem_cons_of_mem _ hx))
  rw[List.length_cons,zao5,z79,List.append_assoc,z0h,zxv,ih,z8a h1 (by omega)]
theorem zad0 (p:Packet):(z6e p).length=17+8*p.Set.length+p.Done.length:=by
 unfold z6e
 simp only[yy6,zbb,zp7,zadx]
 omega
theorem back {p:Packet} (hg:zgt p=0) (e:List UInt8):cnt (z6e p++e)=p.Set.length∧cnt2 (z6e p++e)=p.Done.length∧pkt (z6e p++e)=p:=by
 obtain ⟨g1,g2,g3,g4,g5,g6,g7,g8,g9,g10,_,_⟩:=zp8 hg
 have l1:=zlb g9 (by omega)
 have l2:=zyk g10 (by omega)
 have hs:z6e p++e=be p.Kind 1++(be p.Id 6++(be p.V 1++(be p.N 7++(be p.Set.length 1++(encS p.Set++(be p.Done.length 1++(encD p.Done++e))))))):=by
  unfold z6e;simp only[List.append_assoc]
 have d1:(z6e p++e).drop 1=be p.Id 6++(be p.V 1++(be p.N 7++(be p.Set.length 1++(encS p.Set++(be p.Done.length 1++(encD p.Done++e)))))):=by rw[hs,zxv]
 have d7:(z6e p++e).drop 7=be p.V 1++(be p.N 7++(be p.Set.length 1++(encS p.Set++(be p.Done.length 1++(encD p.Done++e))))):=by rw[show 7=1+6 from rfl,← List.drop_drop,d1,zxv]
 have d8:(z6e p++e).drop 8=be p.N 7++(be p.Set.length 1++(encS p.Set++(be p.Done.length 1++(encD p.Done++e)))):=by rw[show 8=7+1 from rfl,← List.drop_drop,d7,zxv]
 have d15:(z6e p++e).drop 15=be p.Set.length 1++(encS p.Set++(be p.Done.length 1++(encD p.Done++e))):=by rw[show 15=8+7 from rfl,← List.drop_drop,d8,zxv]
 have d16:(z6e p++e).drop 16=encS p.Set++(be p.Done.length 1++(encD p.Done++e)):=by rw[show 16=15+1 from rfl,← List.drop_drop,d15,zxv]
 have c1:cnt (z6e p++e)=p.Set.length:=by
  have:=z8a (x:=(p.Set.length:Int)) (k:=1) (by omega) (by omega)
  unfold cnt
  rw[d15,z0h];omega
 have dd:(z6e p++e).drop (16+8*p.Set.length)=be p.Done.length 1++(encD p.Done++e):=by rw[← List.drop_drop,d16,List.drop_left' (zp7 _)]
 have c2:cnt2 (z6e p++e)=p.Done.length:=by
  have:=z8a (x:=(p.Done.length:Int)) (k:=1) (by omega) (by omega)
  unfold cnt2
  rw[c1,dd,z0h];omega
 have dz:(z6e p++e).drop (17+8*p.Set.length)=encD p.Done++e:=by rw[show 17+8*p.Set.length=16+8*p.Set.length+1 by omega,← List.drop_drop,dd,zxv]
 refine ⟨c1,c2,?_⟩
 unfold pkt
 rw[c1,c2,dz,d16,d8,d7,d1,z0h,z0h,z0h,zatx _ _ (zp6 (by omega) g9 (by omega)),zaty _ _ (zyj g10 (by omega))]
 rw[show (z6e p++e).take 1=be p.Kind 1 by rw[hs,z0h]]
 rw[z8a (by omega) (by omega),z8a (by omega) (by omega),z8a (by omega) (by omega),z8a (by omega) (by omega)]
theorem zanb {p:Packet} (h:¬ zgt p=0):zes p=(txt [],zgt p):=if_neg h
theorem zrf {p:Packet} (h:zgt p=0):zes p=(txt (z6e p),0):=if_pos h
theorem zci (y:Int):u64.wrap y=y % 18446744073709551616:=by
 unfold IntKind.wrap
 simp[IntKind.bits,IntKind.signed]
theorem u8w (y:Int):IntKind.u8.wrap y=y % 256:=by
 unfold IntKind.wrap
 simp[IntKind.bits,IntKind.signed]
theorem zatz (n:Nat):u64.wrap ((n:Nat):Int)=((n % 18446744073709551616:Nat):Int):=by rw[zci];omega
theorem zrg {n:Nat} (h:n < 18446744073709551616):u64.wrap ((n:Nat):Int)=((n:Nat):Int):=by rw[zci];omega
theorem zabs (n k:Nat):Int.fdiv (n:Int) (2 ^ k)=((n / 2 ^ k:Nat):Int):=by
 rw[Int.fdiv_eq_ediv_of_nonneg _ (Int.le_of_lt (Int.pow_pos (by omega))),Int.natCast_ediv,Int.natCast_pow];rfl
theorem zao6 (n:Nat):(BitVec.ofInt 64 (n:Int) &&& BitVec.ofInt 64 4294967295).toNat=n % 4294967296:=by
 rw[BitVec.ofInt_natCast,show (4294967295:Int)=((4294967295:Nat):Int) from rfl,BitVec.ofInt_natCast,BitVec.toNat_and,BitVec.toNat_ofNat,BitVec.toNat_ofNat]
 rw[show 4294967295 % 2 ^ 64=2 ^ 32 - 1 by decide,Nat.and_two_pow_sub_one_eq_mod]
 omega
theorem z23 {x y:Nat} (hx:x < 4294967296) (hy:y < 4294967296):x*y≤18446744065119617025:=by
 have:=Nat.mul_le_mul (show x≤4294967295 by omega) (show y≤4294967295 by omega)
 omega
theorem zaz1 {a b:Nat} (ha:a < 18446744073709551616) (hb:b < 18446744073709551616) :
  znq a b=some (((a*b / 18446744073709551616:Nat):Int),((a*b % 18446744073709551616:Nat):Int)):=by
 rw[znq,zpe]
 iterate 5 rw[Tr.rg (by omega)]
 rw[Tr.rl]
 simp only[zabs,zao6,zatz,← Int.natCast_mul,← Int.natCast_add]
 have hx:a=4294967296*(a / 4294967296)+a % 4294967296:=by omega
 have hy:b=4294967296*(b / 4294967296)+b % 4294967296:=by omega
 rw[show (2:Nat) ^ 32=4294967296 by decide]
 generalize hx1:a / 4294967296=x1 at *
 generalize hx0:a % 4294967296=x0 at *
 generalize hy1:b / 4294967296=y1 at *
 generalize hy0:b % 4294967296=y0 at *
 have p11:=z23 (x:=x1) (y:=y1) (by omega) (by omega)
 have p10:=z23 (x:=x1) (y:=y0) (by omega) (by omega)
 have p01:=z23 (x:=x0) (y:=y1) (by omega) (by omega)
 have p00:=z23 (x:=x0) (y:=y0) (by omega) (by omega)
 have hp:a*b=18446744073709551616*(x1*y1)+4294967296*(x1*y0)+4294967296*(x0*y1)+x0*y0:=by
  rw[hx,hy,Nat.add_mul,Nat.mul_add,Nat.mul_add,Nat.mul_assoc,Nat.mul_assoc,Nat.mul_left_comm x1,Nat.mul_left_comm x0];omega
 rw[hp,Nat.mod_eq_of_lt (a:=x0) (by omega),Nat.mod_eq_of_lt (a:=y0) (by omega)]
 generalize x1*y1=q11 at *
 generalize x1*y0=q10 at *
 generalize x0*y1=q01 at *
 generalize x0*y0=q00 at *
 congr 3
 omega
def za7l (l:List UInt8):Bool:=(List.range 256).all fun k=>k==0||(decide (1≤(l.getD k 0).toNat)&&decide ((l.getD k 0).toNat≤8)&&decide (2 ^ ((l.getD k 0).toNat - 1)≤k)&&decide (k < 2 ^ (l.getD k 0).toNat))
theorem zaz2 {l:List UInt8} (h:za7l l=true) {k:Nat} (h0:0 < k) (h1:k < 256) :
  1≤(l.getD k 0).toNat∧(l.getD k 0).toNat≤8∧2 ^ ((l.getD k 0).toNat - 1)≤k∧k < 2 ^ (l.getD k 0).toNat:=by
 have:=List.all_eq_true.1 h k (List.mem_range.2 h1)
 simp only[Bool.or_eq_true,beq_iff_eq,yy7,decide_eq_true_eq] at this
 rcases this with h | ⟨⟨⟨h2,h3⟩,h4⟩,h5⟩
 ·omega
 ·exact ⟨h2,h3,h4,h5⟩
theorem zbhk {n m t:Nat} (h1:1≤t) (h2:2 ^ (t - 1)≤n / 2 ^ m) (h3:n / 2 ^ m < 2 ^ t):2 ^ (m+t - 1)≤n∧n < 2 ^ (m+t):=by
 constructor
 ·have:=(Nat.le_div_iff_mul_le (Nat.pow_pos (by omega))).1 h2
  rwa [← Nat.pow_add,show t - 1+m=m+t - 1 by omega] at this
 ·have:=(Nat.div_lt_iff_lt_mul (Nat.pow_pos (by omega))).1 h3
  rwa [← Nat.pow_add,Nat.add_comm] at this
theorem zaz3 {l:List UInt8} (h:za7l l=true) {n m:Nat} (hm:m≤56) (h0:0 < n / 2 ^ m) (h1:n / 2 ^ m < 256) :
  ∃ t:Nat,i64.wrap ((m:Int)+i64.wrap (((l.getD (IntKind.u8.wrap ((n / 2 ^ m:Nat):Int)).toNat 0).toNat:Nat):Int))=(t:Int)∧1≤t∧t≤64∧2 ^ (t - 1)≤n∧n < 2 ^ t:=by
 have e:(IntKind.u8.wrap ((n / 2 ^ m:Nat):Int)).toNat=n / 2 ^ m:=by rw[u8w];omega
 rw[e]
 obtain ⟨k1,k2,k3,k4⟩:=zaz2 h h0 h1
 generalize (l.getD (n / 2 ^ m) 0).toNat=t at *
 obtain ⟨u1,u2⟩:=zbhk k1 k3 k4
 refine ⟨m+t,?_,by omega,by omega,u1,u2⟩
 rw[zg (x:=(t:Int)) (by omega) (by omega),zg (by omega) (by omega)]
 omega
theorem zaz4 {n:Nat} (h0:0 < n) (h1:n < 18446744073709551616):∃ t:Nat,znr n=some (t:Int)∧1≤t∧t≤64∧2 ^ (t - 1)≤n∧n < 2 ^ t:=by
 rw[znr,zpf]
 generalize hl:tabB=tab
 have htab:za7l tab.data.toList=true:=by rw[← hl];decide +kernel
 have hsz:tab.size=256:=by rw[← hl];decide +kernel
 clear hl
 simp only[zabs,Nat.div_div_eq_div_mul,← Nat.pow_add,hsz]
 have fin:∀ {m:Nat} {x:Int},m≤56→x=m→0 < n / 2 ^ m→n / 2 ^ m < 256→∃ t:Nat,(Tr.guard ((0:Int)≤IntKind.u8.wrap ((n / 2 ^ m:Nat):Int)∧IntKind.u8.wrap ((n / 2 ^ m:Nat):Int) < ((256:Nat):Int)) (.leaf (i64.wrap (x+i64.wrap (((tab.data.toList.getD (IntKind.u8.wrap ((n / 2 ^ m:Nat):Int)).toNat 0).toNat:Nat):Int))))).run=some (t:Int)∧1≤t∧t≤64∧2 ^ (t - 1)≤n∧n < 2 ^ t:=by
  intro m x hm hx g0 g1
  subst hx
  obtain ⟨t,e,k⟩:=zaz3 htab hm g0 g1
  exact ⟨t,by rw[Tr.rg (by rw[u8w];omega),Tr.rl,e],k⟩
 by_cases c1:n≥4294967296
 ·rw[Tr.rt (by simp;omega),Tr.rg (by omega)]
  by_cases c2:n / 2 ^ 32≥65536
  ·rw[Tr.rt (by simp;omega),Tr.rg (by omega)]
   by_cases c3:n / 2 ^ (32+16)≥256
   ·rw[Tr.rt (by simp;omega),Tr.rg (by omega)]
    exact fin (m:=32+16+8) (by omega) rfl (by omega) (by omega)
   ·rw[Tr.rf (by simp;omega)]
    exact fin (m:=32+16) (by omega) rfl (by omega) (by omega)
  ·rw[Tr.rf (by simp;omega)]
   by_cases c3:n / 2 ^ 32≥256
   ·rw[Tr.rt (by simp;omega),Tr.rg (by omega)]
    exact fin (m:=32+8) (by omega) rfl (by omega) (by omega)
   ·rw[Tr.rf (by simp;omega)]
    exact fin (m:=32) (by omega) rfl (by omega) (by omega)
 ·rw[Tr.rf (by simp;omega)]
  by_cases c2:n≥65536
  ·rw[Tr.rt (by simp;omega),Tr.rg (by omega)]
   by_cases c3:n / 2 ^ 16≥256
   ·rw[Tr.rt (by simp;omega),Tr.rg (by omega)]
    exact fin (m:=16+8) (by omega) rfl (by omega) (by omega)
   ·rw[Tr.rf (by simp;omega)]
    exact fin (m:=16) (by omega) rfl (by omega) (by omega)
  ·rw[Tr.rf (by simp;omega)]
   by_cases c3:n≥256
   ·rw[Tr.rt (by simp;omega),Tr.rg (by omega)]
    exact fin (m:=8) (by omega) rfl (by omega) (by omega)
   ·rw[Tr.rf (by simp;omega)]
    have:=fin (m:=0) (x:=0) (by omega) rfl (by simpa using h0) (by simp;omega)
    simpa using this
theorem za7m {n:Nat} (h0:0 < n) (h1:n < 18446744073709551616):∃ s:Nat,zfg n=some (s:Int)∧s≤63∧9223372036854775808≤n*2 ^ s∧n*2 ^ s < 18446744073709551616:=by
 obtain ⟨t,e,k1,k2,k3,k4⟩:=zaz4 h0 h1
 refine ⟨64 - t,?_,by omega,?_,?_⟩
 ·rw[zfg,zfs,Tr.rb e,Tr.rl,zg (by omega) (by omega)]
  congr 1;omega
 ·have:=Nat.mul_le_mul_right (2 ^ (64 - t)) k3
  rw[← Nat.pow_add,show t - 1+(64 - t)=63 by omega] at this
  exact this
 ·have:=Nat.mul_lt_mul_of_pos_right k4 (show 0 < 2 ^ (64 - t) from Nat.pow_pos (by omega))
  rw[← Nat.pow_add,show t+(64 - t)=64 by omega] at this
  exact this
set_option maxRecDepth 100000
theorem zme {σ ρ:Type} {F:σ→Option (σ⊕ρ)} {s s':σ} (h:F s=some (.inl s')):zbl F s=zbl F s':=by rw[zyx,h]
theorem zrh {σ ρ:Type} {F:σ→Option (σ⊕ρ)} {s:σ} {r:ρ} (h:F s=some (.inr r)):zbl F s=some r:=by rw[zyx,h]
structure Dig (y1 y0 u d t q r:Nat):Prop where
 hy1:2147483648≤y1
 hy1':y1 < 4294967296
 hy0:y0 < 4294967296
 hd:d < 4294967296
 hu:u < y1*4294967296+y0
 t1:t*(y1*4294967296+y0)≤u*4294967296+d
 t2:u*4294967296+d < (t+1)*(y1*4294967296+y0)
 qr:q*y1+r=u
 hr:r < 4294967296
 hq:t≤q
 hq':q≤4294967297
theorem Dig.small {y1 y0 u d t q r:Nat} (h:Dig y1 y0 u d t q r):t < 4294967296:=by
 have a:=h.hy1;have b:=h.hu;have c:=h.t1;have e:=h.hd
 refine Classical.byContradiction fun hn=>?_
 have:=Nat.mul_le_mul_right (y1*4294967296+y0) (show 4294967296≤t by omega)
 omega
theorem Dig.done {y1 y0 u d t q r:Nat} (h1:t*(y1*4294967296+y0)≤u*4294967296+d) (h2:u*4294967296+d < (t+1)*(y1*4294967296+y0)) (hqr:q*y1+r=u) (hq:t≤q)
  (hc:q*y0≤r*4294967296+d):q=t:=by
 have e:q*(y1*4294967296+y0)≤u*4294967296+d:=by
  rw[Nat.mul_add,← Nat.mul_assoc];omega
 refine Classical.byContradiction fun hn=>?_
 have:=Nat.mul_le_mul_right (y1*4294967296+y0) (show t+1≤q by omega)
 omega
theorem Dig.more {y1 y0 u d t q r:Nat} (h:Dig y1 y0 u d t q r) (hc:q≥4294967296∨r*4294967296+d < q*y0):t < q:=by
 rcases hc with hc | hc
 ·have:=h.small;omega
 ·have h1:=h.t1;have h3:=h.qr;have h4:=h.hq
  refine Classical.byContradiction fun hn=>?_
  obtain rfl:t=q:=by omega
  rw[Nat.mul_add,← Nat.mul_assoc] at h1
  omega
theorem Dig.brk {y1 y0 u d t q r:Nat} (h:Dig y1 y0 u d t q r) (hlt:t < q) (hr:4294967296≤r+y1):q - 1=t:=by
 obtain ⟨p,rfl⟩:∃ p,q=p+1:=⟨q - 1,by omega⟩
 have h3:=h.qr;have h4:=h.hy0;have h5:=h.hq'
 rw[Nat.succ_mul] at h3
 refine Dig.done (y1:=y1) (y0:=y0) (u:=u) (d:=d) (r:=r+y1) h.t1 h.t2 (by rw[Nat.add_sub_cancel];omega) (by omega) ?_
 rw[Nat.add_sub_cancel]
 have:=Nat.mul_le_mul (show p≤4294967296 by omega) (show y0≤4294967295 by omega)
 omega
theorem Dig.next {y1 y0 u d t q r:Nat} (h:Dig y1 y0 u d t q r) (hlt:t < q) (hr:r+y1 < 4294967296):Dig y1 y0 u d t (q - 1) (r+y1):=by
 obtain ⟨p,rfl⟩:∃ p,q=p+1:=⟨q - 1,by omega⟩
 have h3:=h.qr;have h5:=h.hq'
 rw[Nat.succ_mul] at h3
 exact ⟨h.hy1,h.hy1',h.hy0,h.hd,h.hu,h.t1,h.t2,by rw[Nat.add_sub_cancel];omega,hr,by omega,by omega⟩
theorem zabt {q:Nat} (h:0 < q) (h':q < 18446744073709551616):u64.wrap ((q:Int) - 1)=((q - 1:Nat):Int):=by rw[zci];omega
theorem za7n {x0 x1 x4 x6:Int} {y1 y0 u d t:Nat}:∀ (n q r:Nat),q≤n→Dig y1 y0 u d t q r →
  zdy x0 x1 y1 y0 x4 d x6 q r=some (x0,x1,(y1:Int),(y0:Int),x4,(d:Int),x6,(t:Int)):=by
 intro n
 induction n with
 | zero =>
  intro q r hn h
  have h5:=h.hq
  obtain rfl:q=0:=by omega
  obtain rfl:t=0:=by omega
  have h6:=h.hr
  rw[zdy]
  refine zrh ?_
  simp only[zdd]
  rw[Tr.rf (by simp[zci];omega),Tr.rl]
 | succ n ih =>
  intro q r hn h
  have a1:=h.hy1;have a2:=h.hy1';have a3:=h.hy0;have a4:=h.hd;have a5:=h.hr;have a6:=h.hq'
  rw[zdy]
  by_cases hc:q≥4294967296∨r*4294967296+d < q*y0
  ·have hlt:=h.more hc
   have hT:((decide ((q:Int)≥4294967296))||(decide ((u64.wrap ((q:Int)*(y0:Int))) > (u64.wrap ((u64.wrap (4294967296*(r:Int)))+(d:Int))))))=true:=by
    by_cases hq:q≥4294967296
    ·rw[decide_eq_true (by omega)];rfl
    ·have hm:=z23 (x:=q) (y:=y0) (by omega) a3
     rcases hc with hc | hc
     ·omega
     ·rw[← Int.natCast_mul,zrg (by omega),zci,zci,decide_eq_true (p:=((q*y0:Nat):Int) > _) (by omega),Bool.or_true]
   by_cases hb:r+y1≥4294967296
   ·refine zrh ?_
    simp only[zdd]
    rw[Tr.rt hT,Tr.rt (by rw[zci];simp;omega),Tr.rl,zabt (by omega) (by omega),h.brk hlt hb]
   ·rw[← ih (q - 1) (r+y1) (by omega) (h.next hlt (by omega)),zdy]
    refine zme ?_
    simp only[zdd]
    rw[Tr.rt hT,Tr.rf (by rw[zci];simp;omega),Tr.rl,zabt (by omega) (by omega),← Int.natCast_add,zrg (by omega)]
  ·have hq:q < 4294967296:=by omega
   have hm:=z23 (x:=q) (y:=y0) hq a3
   have he:q=t:=Dig.done h.t1 h.t2 h.qr h.hq (by omega)
   refine zrh ?_
   simp only[zdd]
   rw[Tr.rf (by
    rw[decide_eq_false (by omega),Bool.false_or,← Int.natCast_mul,zrg (by omega),zci,zci,decide_eq_false (by omega)]),Tr.rl,he]
theorem za7o {x0 x1 x5 x7:Int} {y1 y0 u d t:Nat}:∀ (n q r:Nat),q≤n→Dig y1 y0 u d t q r →
  zdz x0 x1 y1 y0 d x5 r x7 q=some (x0,x1,(d:Int),x5,x7,(t:Int)):=by
 intro n
 induction n with
 | zero =>
  intro q r hn h
  have h5:=h.hq
  obtain rfl:q=0:=by omega
  obtain rfl:t=0:=by omega
  have h6:=h.hr
  rw[zdz]
  refine zrh ?_
  simp only[zde]
  rw[Tr.rf (by simp[zci];omega),Tr.rl]
 | succ n ih =>
  intro q r hn h
  have a1:=h.hy1;have a2:=h.hy1';have a3:=h.hy0;have a4:=h.hd;have a5:=h.hr;have a6:=h.hq'
  rw[zdz]
  by_cases hc:q≥4294967296∨r*4294967296+d < q*y0
  ·have hlt:=h.more hc
   have hT:((decide ((q:Int)≥4294967296))||(decide ((u64.wrap ((q:Int)*(y0:Int))) > (u64.wrap ((u64.wrap (4294967296*(r:Int)))+(d:Int))))))=true:=by
    by_cases hq:q≥4294967296
    ·rw[decide_eq_true (by omega)];rfl
    ·have hm:=z23 (x:=q) (y:=y0) (by omega) a3
     rcases hc with hc | hc
     ·omega
     ·rw[← Int.natCast_mul,zrg (by omega),zci,zci,decide_eq_true (p:=((q*y0:Nat):Int) > _) (by omega),Bool.or_true]
   by_cases hb:r+y1≥4294967296
   ·refine zrh ?_
    simp only[zde]
    rw[Tr.rt hT,Tr.rt (by rw[zci];simp;omega),Tr.rl,zabt (by omega) (by omega),h.brk hlt hb]
   ·rw[← ih (q - 1) (r+y1) (by omega) (h.next hlt (by omega)),zdz]
    refine zme ?_
    simp only[zde]
    rw[Tr.rt hT,Tr.rf (by rw[zci];simp;omega),Tr.rl,zabt (by omega) (by omega),← Int.natCast_add,zrg (by omega)]
  ·have hq:q < 4294967296:=by omega
   have hm:=z23 (x:=q) (y:=y0) hq a3
   have he:q=t:=Dig.done h.t1 h.t2 h.qr h.hq (by omega)
   refine zrh ?_
   simp only[zde]
   rw[Tr.rf (by
    rw[decide_eq_false (by omega),Bool.false_or,← Int.natCast_mul,zrg (by omega),zci,zci,decide_eq_false (by omega)]),Tr.rl,he]
theorem zak5 {y1 y0 u d:Nat} (hy1:2147483648≤y1) (hy1':y1 < 4294967296) (hy0:y0 < 4294967296) (hd:d < 4294967296) (hu:u < y1*4294967296+y0) :
  Dig y1 y0 u d ((u*4294967296+d) / (y1*4294967296+y0)) (u / y1) (u - u / y1*y1):=by
 have hpos:0 < y1*4294967296+y0:=by omega
 have e1:=Nat.div_add_mod u y1
 have e2:=Nat.mod_lt u (show y1 > 0 by omega)
 rw[Nat.mul_comm] at e1
 have f1:=Nat.div_add_mod (u*4294967296+d) (y1*4294967296+y0)
 have f2:=Nat.mod_lt (u*4294967296+d) hpos
 rw[Nat.mul_comm] at f1
 have hq':u / y1≤4294967297:=by
  refine Classical.byContradiction fun hn=>?_
  have:=Nat.mul_le_mul_right y1 (show 4294967298≤u / y1 by omega)
  omega
 generalize ht:(u*4294967296+d) / (y1*4294967296+y0)=t at *
 generalize hq:u / y1=q at *
 refine ⟨hy1,hy1',hy0,hd,hu,by omega,by rw[Nat.succ_mul];omega,by omega,by omega,?_,hq'⟩
 refine Classical.byContradiction fun hn=>?_
 have h1:=Nat.mul_le_mul_right (y1*4294967296+y0) (show q+1≤t by omega)
 rw[Nat.mul_add,← Nat.mul_assoc,Nat.succ_mul] at h1
 omega
theorem zbhl {a b s:Nat} (hb:b < 2 ^ s) (ha:a*2 ^ s+b < 18446744073709551616):(BitVec.ofInt 64 ((a*2 ^ s:Nat):Int) ||| BitVec.ofInt 64 (b:Int)).toNat=a*2 ^ s+b:=by
 rw[BitVec.ofInt_natCast,BitVec.ofInt_natCast,BitVec.toNat_or,BitVec.toNat_ofNat,BitVec.toNat_ofNat,Nat.mod_eq_of_lt (by omega),Nat.mod_eq_of_lt (by omega)]
 have h3:=Nat.shiftLeft_add_eq_or_of_lt hb a
 rw[Nat.shiftLeft_eq] at h3
 exact h3.symm
theorem zat0 {u z v q1 q0 z1 z0 u2:Nat} (h1:u*4294967296+z1=q1*v+u2) (h2:z=z1*4294967296+z0) (h3:q0*v≤u2*4294967296+z0) (h4:u2*4294967296+z0 < (q0+1)*v) :
  (u*18446744073709551616+z) / v=q1*4294967296+q0:=by
 have m1:(q1*4294967296+q0)*v=q1*v*4294967296+q0*v:=by rw[Nat.add_mul,Nat.mul_right_comm]
 have m2:(q1*4294967296+q0+1)*v=q1*v*4294967296+q0*v+v:=by rw[Nat.add_one_mul,m1]
 have m3:(q0+1)*v=q0*v+v:=Nat.add_one_mul q0 v
 rw[m3] at h4
 obtain ⟨k,hk⟩:∃ k,k=q1*v:=⟨_,rfl⟩
 obtain ⟨j,hj⟩:∃ j,j=q0*v:=⟨_,rfl⟩
 rw[← hk] at h1 m1 m2
 rw[← hj] at h3 h4 m1 m2
 have a1:k*4294967296+j≤u*18446744073709551616+z:=by clear m1 m2 m3 hk hj;omega
 have a2:u*18446744073709551616+z < k*4294967296+j+v:=by
  have h5:u*18446744073709551616+z1*4294967296=k*4294967296+u2*4294967296:=by
   have:=congrArg (·*4294967296) h1
   simpa only [Nat.add_mul,Nat.mul_assoc,Nat.reduceMul] using this
  obtain ⟨U,hU⟩:∃ U,U=u*18446744073709551616:=⟨_,rfl⟩
  obtain ⟨K,hK⟩:∃ K,K=k*4294967296:=⟨_,rfl⟩
  rw[← hU,← hK] at h5 ⊢
  clear m1 m2 m3 hk hj h1 hU hK h3;omega
 rw[← m1] at a1
 rw[← m2] at a2
 exact Nat.div_eq_of_lt_le a1 a2
theorem zaz5 {h l y:Nat} (hh:h < y) (hl:l < 18446744073709551616) (hy:y < 18446744073709551616) :
  ∃ r,zns h l y=some ((((h*18446744073709551616+l) / y:Nat):Int),r):=by
 rw[zns,zpg,Tr.rf (by simp;omega),Tr.rf (by simp;omega)]
 by_cases h0:h=0
 ·subst h0
  refine ⟨Int.tmod l y,?_⟩
  rw[Tr.rt (by simp),Tr.rg (by omega),Tr.rg (by omega),Tr.rl,z5b (by omega),← Int.natCast_ediv,zrg (by have:=Nat.div_le_self l y;omega),Nat.zero_mul,Nat.zero_add]
 ·obtain ⟨s,e0,s1,s2,s3⟩:=za7m (n:=y) (by omega) hy
  rw[Tr.rf (by simp;omega),Tr.rb e0]
  have hs0:0 < 2 ^ s:=Nat.pow_pos (by omega)
  have w1:u64.wrap ((s:Nat):Int)=(s:Int):=zrg (by omega)
  have w2:u64.wrap (64 - (s:Int))=((64 - s:Nat):Int):=by rw[zci];omega
  have m1:min s 64=s:=by omega
  have m2:min (64 - s) 64=64 - s:=by omega
  have c2:(2:Int) ^ s=((2 ^ s:Nat):Int):=by rw[Int.natCast_pow];rfl
  have hle:h*2 ^ s+l / 2 ^ (64 - s) < y*2 ^ s:=by
   have a1:=Nat.mul_le_mul_right (2 ^ s) (show h+1≤y by omega)
   have a2:l / 2 ^ (64 - s) < 2 ^ s:=by
    rw[Nat.div_lt_iff_lt_mul (Nat.pow_pos (by omega)),← Nat.pow_add,show s+(64 - s)=64 by omega];exact hl
   rw[Nat.succ_mul] at a1;omega
  have hlo:l / 2 ^ (64 - s) < 2 ^ s:=by
   rw[Nat.div_lt_iff_lt_mul (Nat.pow_pos (by omega)),← Nat.pow_add,show s+(64 - s)=64 by omega];exact hl
  have hN:(h*18446744073709551616+l)*2 ^ s=(h*2 ^ s+l / 2 ^ (64 - s))*18446744073709551616+l*2 ^ s % 18446744073709551616:=by
   have k1:(18446744073709551616:Nat)=2 ^ (64 - s)*2 ^ s:=by rw[← Nat.pow_add,show 64 - s+s=64 by omega]
   have k2:=Nat.div_add_mod l (2 ^ (64 - s))
   have k3:l*2 ^ s % 18446744073709551616=(l % 2 ^ (64 - s))*2 ^ s:=by rw[k1,Nat.mul_mod_mul_right]
   rw[k3,Nat.add_mul,Nat.add_mul,Nat.mul_right_comm,Nat.add_assoc]
   congr 1
   conv=>lhs;rw[← k2]
   rw[Nat.add_mul]
   congr 1
   rw[k1]
   rw[Nat.mul_comm (2 ^ (64 - s)) (l / 2 ^ (64 - s)),Nat.mul_assoc]
  have hq:(h*18446744073709551616+l) / y=(h*18446744073709551616+l)*2 ^ s / (y*2 ^ s):=by rw[Nat.mul_div_mul_right _ _ hs0]
  rw[hq,hN]
  simp only[w1,w2,yy4,m1,m2,c2,zabs,← Int.natCast_mul,zatz,zao6]
  rw[Nat.mod_eq_of_lt s3,Nat.mod_eq_of_lt (a:=h*2 ^ s) (Nat.lt_of_le_of_lt (Nat.le_add_right _ _) (Nat.lt_trans hle s3))]
  rw[zbhl hlo (Nat.lt_trans hle s3)]
  generalize y*2 ^ s=v at *
  generalize h*2 ^ s+l / 2 ^ (64 - s)=u at *
  generalize hz:l*2 ^ s % 18446744073709551616=z at *
  have hz':z < 18446744073709551616:=by rw[← hz];exact Nat.mod_lt _ (by omega)
  rw[show (2:Nat) ^ 32=4294967296 by decide]
  have hv:v=v / 4294967296*4294967296+v % 4294967296:=by omega
  have hv1:2147483648≤v / 4294967296:=by omega
  have hv2:v / 4294967296 < 4294967296:=by omega
  have hv3:v % 4294967296 < 4294967296:=by omega
  generalize hy1:v / 4294967296=y1 at *
  generalize hy0:v % 4294967296=y0 at *
  have hz1:z / 4294967296 < 4294967296:=by omega
  have hz0:z % 4294967296 < 4294967296:=by omega
  have hzz:z=z / 4294967296*4294967296+z % 4294967296:=by omega
  generalize z / 4294967296=z1 at *
  generalize z % 4294967296=z0 at *
  have A:=zak5 (y1:=y1) (y0:=y0) (u:=u) (d:=z1) hv1 hv2 hv3 hz1 (by omega)
  rw[← hv] at A
  have hqq:=Nat.div_mul_le_self u y1
  iterate 6 rw[Tr.rg (by omega)]
  rw[Tr.rg (by omega)]
  rw[Nat.mod_eq_of_lt (a:=y0) (by omega),Nat.mod_eq_of_lt (a:=u) (by omega),Nat.mod_eq_of_lt (a:=z0) (by omega),z5b (x:=((u:Nat):Int)) (by omega)]
  rw[show ((u:Nat):Int) / ((y1:Nat):Int)=((u / y1:Nat):Int) from (Int.natCast_ediv ..).symm]
  have wq:u64.wrap (((u / y1:Nat)):Int)=((u / y1:Nat):Int):=zrg (by have:=Nat.div_le_self u y1;omega)
  rw[wq,← Int.natCast_mul,zrg (n:=u / y1*y1) (by omega),show ((u:Nat):Int) - ((u / y1*y1:Nat):Int)=((u - u / y1*y1:Nat):Int) by omega,zrg (n:=u - u / y1*y1) (by omega)]
  rw[Tr.rb (za7n _ _ _ (Nat.le_refl _) A)]
  simp only[]
  rw[Tr.rg (by omega)]
  have ht:=A.small
  have T1:=A.t1;have T2:=A.t2
  rw[← hv] at T1 T2
  obtain ⟨q1,hq1⟩:∃ q1,q1=(u*4294967296+z1) / v:=⟨_,rfl⟩
  rw[← hq1] at ht T1 T2 ⊢
  have hr1:u64.wrap (u64.wrap (u64.wrap ((u:Int)*4294967296)+(z1:Int)) - u64.wrap ((q1:Int)*(v:Int)))=((u*4294967296+z1 - q1*v:Nat):Int):=by
   rw[Nat.succ_mul] at T2
   rw[← Int.natCast_mul,zci,zci,zci,zci]
   generalize q1*v=k at T1 T2 ⊢
   omega
  have hr2:u*4294967296+z1 - q1*v < v:=by rw[Nat.succ_mul] at T2;omega
  have hr3:u*4294967296+z1=q1*v+(u*4294967296+z1 - q1*v):=by omega
  rw[hr1]
  obtain ⟨u2,hu2⟩:∃ u2,u2=u*4294967296+z1 - q1*v:=⟨_,rfl⟩
  rw[← hu2] at hr2 hr3 ⊢
  have A2:=zak5 (y1:=y1) (y0:=y0) (u:=u2) (d:=z0) hv1 hv2 hv3 hz0 (by omega)
  rw[← hv] at A2
  have hqq2:=Nat.div_mul_le_self u2 y1
  rw[z5b (x:=((u2:Nat):Int)) (by omega),show ((u2:Nat):Int) / ((y1:Nat):Int)=((u2 / y1:Nat):Int) from (Int.natCast_ediv ..).symm]
  have wq2:u64.wrap (((u2 / y1:Nat)):Int)=((u2 / y1:Nat):Int):=zrg (by have:=Nat.div_le_self u2 y1;omega)
  rw[wq2,← Int.natCast_mul,zrg (n:=u2 / y1*y1) (by omega),show ((u2:Nat):Int) - ((u2 / y1*y1:Nat):Int)=((u2 - u2 / y1*y1:Nat):Int) by omega,zrg (n:=u2 - u2 / y1*y1) (by omega)]
  rw[Tr.rb (za7o _ _ _ (Nat.le_refl _) A2)]
  simp only[]
  have ht2:=A2.small
  have T3:=A2.t1;have T4:=A2.t2
  rw[← hv] at T3 T4
  obtain ⟨q0,hq0⟩:∃ q0,q0=(u2*4294967296+z0) / v:=⟨_,rfl⟩
  rw[← hq0] at ht2 T3 T4 ⊢
  have hfin:(u*18446744073709551616+z) / v=q1*4294967296+q0:=zat0 hr3 hzz T3 T4
  have hval:u64.wrap (u64.wrap ((q1:Int)*4294967296)+(q0:Int))=((q1*4294967296+q0:Nat):Int):=by rw[zci,zci];omega
  rw[Tr.rg (by omega),Tr.rl,hval,hfin]
  exact ⟨_,rfl⟩
def zko (a b c:Int):Int×Int:=if a < 0∨b < 0∨c < 1 then (0,2) else if 1125899906842624 < a*b / c then (0,2) else (a*b / c,0)
theorem zad1 {a b c:Int} (ha:a≤9223372036854775807) (hb:b≤9223372036854775807) (hc:c≤9223372036854775807):zai a b c=some (zko a b c):=by
 rw[zai,zwm]
 unfold zko
 by_cases h:a < 0∨b < 0∨c < 1
 ·rw[if_pos h,Tr.rt (by simpa[or_assoc] using h),Tr.rl]
 ·rw[if_neg h,Tr.rf (by rw[Bool.eq_false_iff];intro k;apply h;simpa[or_assoc] using k)]
  obtain ⟨x,rfl⟩:=Int.eq_ofNat_of_zero_le (show 0≤a by omega)
  obtain ⟨y,rfl⟩:=Int.eq_ofNat_of_zero_le (show 0≤b by omega)
  obtain ⟨z,rfl⟩:=Int.eq_ofNat_of_zero_le (show 0≤c by omega)
  rw[zrg (by omega),zrg (by omega),zrg (n:=z) (by omega),Tr.rb (zaz1 (by omega) (by omega)),← Int.natCast_mul,← Int.natCast_ediv]
  simp only[]
  obtain ⟨p,hp⟩:∃ p,p=x*y:=⟨_,rfl⟩
  rw[← hp]
  have e1:=Nat.div_add_mod p 18446744073709551616
  by_cases h1:p / 18446744073709551616≥z
  ·rw[Tr.rt (by simp;omega),Tr.rl,if_pos]
   have:1125899906842625≤p / z:=by
    rw[Nat.le_div_iff_mul_le (by omega)]
    omega
   omega
  ·obtain ⟨r,e⟩:=zaz5 (h:=p / 18446744073709551616) (l:=p % 18446744073709551616) (y:=z) (by omega) (Nat.mod_lt _ (by omega)) (by omega)
   rw[Nat.mul_comm,e1] at e
   rw[Tr.rf (by simp;omega),Tr.rb e]
   simp only[]
   obtain ⟨w,hw⟩:∃ w,w=p / z:=⟨_,rfl⟩
   rw[← hw]
   by_cases h2:1125899906842624 < w
   ·rw[Tr.rt (by simp;omega),Tr.rl,if_pos (by omega)]
   ·rw[Tr.rf (by simp;omega),Tr.rl,if_neg (by omega),zg (by omega) (by omega)]
theorem zaat {a b c:Int} (ha:a≤9223372036854775807) (hb:b≤9223372036854775807) (hc:c≤9223372036854775807):zs4 a b c=some (zko a b c):=by
 rw[zs4,z1k]
 unfold zko
 by_cases h:a < 0∨b < 0∨c < 1
 ·rw[if_pos h,Tr.rt (by simpa[or_assoc] using h),Tr.rl]
 ·rw[if_neg h,Tr.rf (by rw[Bool.eq_false_iff];intro k;apply h;simpa[or_assoc] using k)]
  obtain ⟨n,rfl⟩:=Int.eq_ofNat_of_zero_le (show 0≤a by omega)
  have hb0:0≤b:=by omega
  have hc0:0 < c:=by omega
  obtain ⟨r,h1,h2⟩:=zgg (F:=fun s:Int×Int×Int×Int×Int×Int=>(zj2 s.1 s.2.1 s.2.2.1 s.2.2.2.1 s.2.2.2.2.1 s.2.2.2.2.2).run) 63
   (fun i (t:Int×Int)=>((n:Int),b,c,t.1,t.2,62 - (i:Int)))
   (fun i t=>0≤t.1∧t.1≤1125899906842624∧0≤t.2∧t.2 < c∧((n / 2 ^ (63 - i):Nat):Int)*b=t.1*c+t.2)
   (fun i t r=>match r with | .inl v=>v=(0,2)∧1125899906842624 < (n:Int)*b / c | .inr x=>x=(n:Int)*b / c∧x≤1125899906842624) (by
    rintro ⟨q,r⟩ ⟨i1,i2,i3,i4,i5⟩
    simp only at i1 i2 i3 i4 i5
    refine ⟨.inr q,?_,?_,i2⟩
    ·simp only[zj2]
     rw[Tr.rf (by simp),Tr.rl]
    ·rw[Nat.sub_self,Nat.pow_zero,Nat.div_one] at i5
     rw[i5,Int.add_comm,Int.add_mul_ediv_right _ _ (by omega),Int.ediv_eq_zero_of_lt i3 i4,Int.zero_add]) (by
    rintro i ⟨q,r⟩ hi ⟨i1,i2,i3,i4,i5⟩
    simp only at i1 i2 i3 i4 i5
    have hm:n / 2 ^ (63 - i)=n / 2 ^ (62 - i) / 2:=by rw[Nat.div_div_eq_div_mul,← Nat.pow_succ,show (62 - i).succ=63 - i by omega]
    have hmle:n / 2 ^ (62 - i)≤n:=Nat.div_le_self _ _
    rw[hm] at i5
    have hw:u64.wrap (62 - (i:Int))=((62 - i:Nat):Int):=by rw[zci];omega
    have hk:min (62 - i) 64=62 - i:=by omega
    have hbd:=Int.mul_ediv_add_emod b c
    rw[Int.mul_comm c (b / c)] at hbd
    have hbm:=Int.emod_nonneg b (show c≠0 by omega)
    have hbl:=Int.emod_lt_of_pos b hc0
    have hbq:0≤b / c:=Int.ediv_nonneg hb0 (by omega)
    have hbq2:b / c≤b:=Int.ediv_le_self _ hb0
    obtain ⟨m,em⟩:∃ m,m=n / 2 ^ (62 - i):=⟨_,rfl⟩
    rw[← em] at i5 hmle
    have fin:∀ {W Q r':Int},W=i64.wrap Q→0≤Q→Q < 18446744073709551616→0≤r'→r' < c→(m:Int)*b=Q*c+r' →
      (∃ t':Int×Int,(Tr.ite ((decide (W > 1125899906842624))||(decide (W < 0))) (.leaf (.inr (.inl (0,2)))) (.leaf (.inl ((n:Int),b,c,W,r',i64.wrap (62 - (i:Int) - 1)))):Tr ((Int×Int×Int×Int×Int×Int)⊕((Int×Int)⊕(Int)))).run=some (.inl ((n:Int),b,c,t'.1,t'.2,62 - ((i+1:Nat):Int))) ∧
       (0≤t'.1∧t'.1≤1125899906842624∧0≤t'.2∧t'.2 < c∧((n / 2 ^ (63 - (i+1)):Nat):Int)*b=t'.1*c+t'.2)) ∨
      ∃ v,(Tr.ite ((decide (W > 1125899906842624))||(decide (W < 0))) (.leaf (.inr (.inl (0,2)))) (.leaf (.inl ((n:Int),b,c,W,r',i64.wrap (62 - (i:Int) - 1)))):Tr ((Int×Int×Int×Int×Int×Int)⊕((Int×Int)⊕(Int)))).run=some (.inr (.inl v))∧v=(0,2)∧1125899906842624 < (n:Int)*b / c:=by
     intro W Q r' e1 e2 e3 e4 e5 e6
     by_cases hQ:Q≤1125899906842624
     ·refine .inl ⟨(Q,r'),?_,e2,hQ,e4,e5,?_⟩
      ·rw[zg (by omega) (by omega)] at e1
       rw[e1,Tr.rf (by simp;omega),Tr.rl,zg (by omega) (by omega),show (62:Int) - (i:Int) - 1=62 - ((i+1:Nat):Int) by omega]
      ·rw[show 63 - (i+1)=62 - i by omega,← em];exact e6
     ·refine .inr ⟨_,by rw[Tr.rt (by rw[e1,IntKind.wrap_i64];simp;omega),Tr.rl],rfl,?_⟩
      have g1:(m:Int)*b≤(n:Int)*b:=Int.mul_le_mul_of_nonneg_right (by omega) hb0
      have g2:Q≤(n:Int)*b / c:=by
       rw[Int.le_ediv_iff_mul_le hc0];omega
      omega
    have conv:∀ {F:Tr ((Int×Int×Int×Int×Int×Int)⊕((Int×Int)⊕(Int)))},(∃ t':Int×Int,F.run=some (.inl ((n:Int),b,c,t'.1,t'.2,62 - ((i+1:Nat):Int))) ∧
       (0≤t'.1∧t'.1≤1125899906842624∧0≤t'.2∧t'.2 < c∧((n / 2 ^ (63 - (i+1)):Nat):Int)*b=t'.1*c+t'.2)) ∨
      (∃ v,F.run=some (.inr (.inl v))∧v=(0,2)∧1125899906842624 < (n:Int)*b / c) →
      (∃ t':Int×Int,F.run=some (.inl ((n:Int),b,c,t'.1,t'.2,62 - ((i+1:Nat):Int))) ∧
       (0≤t'.1∧t'.1≤1125899906842624∧0≤t'.2∧t'.2 < c∧((n / 2 ^ (63 - (i+1)):Nat):Int)*b=t'.1*c+t'.2) ∧
       ∀ r:((Int×Int)⊕(Int)),(match r with | .inl v=>v=(0,2)∧1125899906842624 < (n:Int)*b / c | .inr x=>x=(n:Int)*b / c∧x≤1125899906842624)→(match r with | .inl v=>v=(0,2)∧1125899906842624 < (n:Int)*b / c | .inr x=>x=(n:Int)*b / c∧x≤1125899906842624)) ∨
      ∃ r:((Int×Int)⊕(Int)),F.run=some (.inr r)∧(match r with | .inl v=>v=(0,2)∧1125899906842624 < (n:Int)*b / c | .inr x=>x=(n:Int)*b / c∧x≤1125899906842624):=by
     intro F hF
     rcases hF with ⟨t',f1,f2⟩ | ⟨v,f1,f2⟩
     ·exact .inl ⟨t',f1,f2,fun r hr=>hr⟩
     ·exact .inr ⟨.inl v,f1,f2⟩
    apply conv
    have hmd:(m:Int)=2*((m / 2:Nat):Int)+((m % 2:Nat):Int):=by omega
    have hmb:(m:Int)*b=2*(((m / 2:Nat):Int)*b)+((m % 2:Nat):Int)*b:=by
     conv=>lhs;rw[hmd]
     rw[Int.add_mul,Int.mul_assoc]
    simp only[zj2,hw,yy4,hk,zabs,← em]
    rw[zahy (x:=(m:Int)) (by omega),z5b hb0,zahy hb0,zg (x:=c - r) (by omega) (by omega),zg (x:=c - b % c) (by omega) (by omega),Tr.rt (by simp;omega)]
    by_cases c1:r≥c - r
    ·rw[Tr.rt (by simpa using c1),Tr.rg (by omega),Tr.rg (by omega),zg (x:=r - (c - r)) (by omega) (by omega)]
     by_cases c2:m % 2=1
     ·rw[c2] at hmb
      rw[Tr.rt (by simp;omega),Tr.rg (by omega),Tr.rg (by omega)]
      by_cases c3:r - (c - r)≥c - b % c
      ·rw[Tr.rt (by simpa using c3),zg (x:=r - (c - r) - (c - b % c)) (by omega) (by omega)]
       refine fin (Q:=2*q+1+b / c+1) (by simp only[IntKind.wrap_i64];omega) (by omega) (by omega) (by omega) (by omega) ?_
       rw[hmb,i5];simp only[Int.add_mul,Int.mul_assoc,Int.one_mul]
       clear hmd hm em;omega
      ·rw[Tr.rf (by simpa using c3),zg (x:=r - (c - r)+b % c) (by omega) (by omega)]
       refine fin (Q:=2*q+1+b / c) (by simp only[IntKind.wrap_i64];omega) (by omega) (by omega) (by omega) (by omega) ?_
       rw[hmb,i5];simp only[Int.add_mul,Int.mul_assoc,Int.one_mul]
       clear hmd hm em;omega
     ·rw[show m % 2=0 by omega] at hmb
      rw[Tr.rf (by simp;omega)]
      refine fin (Q:=2*q+1) (by simp only[IntKind.wrap_i64];omega) (by omega) (by omega) (by omega) (by omega) ?_
      rw[hmb,i5];simp only[Int.add_mul,Int.mul_assoc,Int.one_mul]
      clear hmd hm em;omega
    ·rw[Tr.rf (by simpa using c1),Tr.rg (by omega),Tr.rg (by omega),zg (x:=r+r) (by omega) (by omega)]
     by_cases c2:m % 2=1
     ·rw[c2] at hmb
      rw[Tr.rt (by simp;omega),Tr.rg (by omega),Tr.rg (by omega)]
      by_cases c3:r+r≥c - b % c
      ·rw[Tr.rt (by simpa using c3),zg (x:=r+r - (c - b % c)) (by omega) (by omega)]
       refine fin (Q:=2*q+b / c+1) (by simp only[IntKind.wrap_i64];omega) (by omega) (by omega) (by omega) (by omega) ?_
       rw[hmb,i5];simp only[Int.add_mul,Int.mul_assoc,Int.one_mul]
       clear hmd hm em;omega
      ·rw[Tr.rf (by simpa using c3),zg (x:=r+r+b % c) (by omega) (by omega)]
       refine fin (Q:=2*q+b / c) (by simp only[IntKind.wrap_i64];omega) (by omega) (by omega) (by omega) (by omega) ?_
       rw[hmb,i5];simp only[Int.add_mul,Int.mul_assoc,Int.one_mul]
       clear hmd hm em;omega
     ·rw[show m % 2=0 by omega] at hmb
      rw[Tr.rf (by simp;omega)]
      refine fin (Q:=2*q) rfl (by omega) (by omega) (by omega) (by omega) ?_
      rw[hmb,i5];simp only[Int.add_mul,Int.mul_assoc,Int.one_mul]
      clear hmd hm em;omega) 0 (0,0) (by omega)
   ⟨by simp,by simp,by simp,by simpa using hc0,by rw[Nat.sub_zero,Nat.div_eq_of_lt (by omega)];simp⟩
  have h1:z0p n b c 0 0 62=some r:=h1
  cases r with
  | inl v=>rw[Tr.ri h1,Tr.rl,if_pos h2.2,h2.1]
  | inr x=>rw[Tr.rj h1,Tr.rl,if_neg (by rw[← h2.1];exact Int.not_lt.2 h2.2),h2.1]
theorem z9t (n:Int):zao n=some (decide (0≤n∧n≤1125899906842624)):=by
 rw[zao,z83,Tr.rl,Bool.decide_and]
theorem zth (n:Int):zf2 n=some (decide (0≤n∧n≤1125899906842624)):=by
 rw[zf2,zaij,Tr.rl,Bool.decide_and]
theorem zat1 {n f:Int} (hn:0≤n) (hn':n≤1125899906842624) (hf:0≤f) (hf':f≤1000):zko n f 1000=(n*f / 1000,0)∧0≤n*f∧n*f≤1000*n:=by
 have h1:0≤n*f:=Int.mul_nonneg hn hf
 have h2:n*f≤n*1000:=Int.mul_le_mul_of_nonneg_left hf' hn
 unfold zko
 rw[if_neg (by omega),if_neg (by omega)]
 exact ⟨rfl,h1,by omega⟩
def zri (n f:Int):Int×Int:=if n < 0∨1125899906842624 < n∨f < 0∨1000 < f then (0,2) else (n*f / 1000,0)
theorem zat2 {n f:Int}:zs3 n f=some (zri n f):=by
 rw[zs3,z1j,Tr.rb (z9t n)]
 unfold zri
 by_cases h:n < 0∨1125899906842624 < n∨f < 0∨1000 < f
 ·rw[if_pos h,Tr.rt (by simp;omega),Tr.rl]
 ·rw[if_neg h,Tr.rf (by simp;omega),Tr.rb (zad1 (by omega) (by omega) (by omega)),Tr.rl,(zat1 (by omega) (by omega) (by omega) (by omega)).1]
theorem zags {n f:Int}:zza n f=some (zri n f):=by
 rw[zza,z84,Tr.rb (zth n)]
 unfold zri
 by_cases h:n < 0∨1125899906842624 < n∨f < 0∨1000 < f
 ·rw[if_pos h,Tr.rt (by simp;omega),Tr.rl]
 ·rw[if_neg h,Tr.rf (by simp;omega),Tr.rg (by omega),Tr.rg (by omega),Tr.rg (by omega),Tr.rl]
  have hn:0≤n:=by omega
  rw[z5b hn,zahy hn,zg (x:=n / 1000) (by omega) (by omega)]
  have h1:0≤n / 1000*f:=Int.mul_nonneg (by omega) (by omega)
  have h2:n / 1000*f≤n / 1000*1000:=Int.mul_le_mul_of_nonneg_left (by omega) (by omega)
  have h3:0≤n % 1000*f:=Int.mul_nonneg (by omega) (by omega)
  have h4:n % 1000*f≤n % 1000*1000:=Int.mul_le_mul_of_nonneg_left (by omega) (by omega)
  have h5:n*f=1000*(n / 1000*f)+n % 1000*f:=by
   conv=>lhs;rw[← Int.mul_ediv_add_emod n 1000]
   rw[Int.add_mul,Int.mul_assoc]
  obtain ⟨x,hx⟩:∃ x,x=n / 1000*f:=⟨_,rfl⟩
  obtain ⟨y,hy⟩:∃ y,y=n % 1000*f:=⟨_,rfl⟩
  rw[← hx,← hy] at h5
  rw[← hx] at h1 h2
  rw[← hy] at h3 h4
  rw[← hx,← hy,h5,zg (x:=x) (by omega) (by omega),zg (x:=y) (by omega) (by omega),z5b h3,zg (x:=y / 1000) (by omega) (by omega),zg (by omega) (by omega)]
  congr 2
  clear hx hy h5
  omega
theorem zaqw {α:Type} {l:List α} {k:Nat} (h:k < l.length) (d:α):l.drop k=l.getD k d::l.drop (k+1):=by
 rw[List.drop_eq_getElem_cons h,yy0,yy3 h];rfl
def totB (b:Bank):Int:=b.Free.x0+b.Free.x1+b.Free.x2+b.Free.x3+b.Bonded+b.Waiting+b.Burnt
def okN (x:Int):Prop:=0≤x∧x≤400000
instance (x:Int):Decidable (okN x):=inferInstanceAs (Decidable (_∧_))
theorem zrj {x:Int} (h:okN x):(decide (x < 0)||decide (x > 400000))=false:=by unfold okN at h;simp;omega
theorem zwj {x:Int} (h:¬ okN x):(decide (x < 0)||decide (x > 400000))=true:=by unfold okN at h;simp;omega
def zif (b:Bank):Prop:=okN b.Free.x0∧okN b.Free.x1∧okN b.Free.x2∧okN b.Free.x3∧okN b.Bonded∧okN b.Waiting∧okN b.Burnt∧totB b=400000
instance (b:Bank):Decidable (zif b):=inferInstanceAs (Decidable (_∧_))
def plA (b:Bank):A7 Int:=⟨b.Free.x0,b.Free.x1,b.Free.x2,b.Free.x3,b.Bonded,b.Waiting,b.Burnt⟩
def bkA (a:A7 Int):Bank:=⟨⟨a.x0,a.x1,a.x2,a.x3⟩,a.x4,a.x5,a.x6⟩
theorem zaqx (b:Bank):z5j b=some (i64.wrap (totB b)):=by
 have key:∀ x:Int,zwo x b.Free 0=some (i64.wrap (i64.wrap (i64.wrap (i64.wrap (x+b.Free.x0)+b.Free.x1)+b.Free.x2)+b.Free.x3)):=by
  intro x
  rw[zwo]
  refine (zme (s':=(i64.wrap (x+b.Free.x0),b.Free,1)) ?_).trans ((zme (s':=(i64.wrap (i64.wrap (x+b.Free.x0)+b.Free.x1),b.Free,2)) ?_).trans ((zme (s':=(i64.wrap (i64.wrap (i64.wrap (x+b.Free.x0)+b.Free.x1)+b.Free.x2),b.Free,3)) ?_).trans ((zme (s':=(i64.wrap (i64.wrap (i64.wrap (i64.wrap (x+b.Free.x0)+b.Free.x1)+b.Free.x2)+b.Free.x3),b.Free,4)) ?_).trans (zrh ?_))))
  ·simp only[zhu];rw[Tr.rt (by rfl),Tr.rg (by omega),Tr.rl];rfl
  ·simp only[zhu];rw[Tr.rt (by rfl),Tr.rg (by omega),Tr.rl];rfl
  ·simp only[zhu];rw[Tr.rt (by rfl),Tr.rg (by omega),Tr.rl];rfl
  ·simp only[zhu];rw[Tr.rt (by rfl),Tr.rg (by omega),Tr.rl];rfl
  ·simp only[zhu];rw[Tr.rf (by rfl),Tr.rl]
 rw[z5j,z86,Tr.rb (key _),Tr.rl]
 congr 1
 simp only[IntKind.wrap_i64,totB]
 omega
theorem zp9 (b:Bank):zhn b=some (decide (zif b)):=by
 rw[zhn,z5k]
 obtain ⟨l,hl⟩:∃ l,l=[b.Free.x0,b.Free.x1,b.Free.x2,b.Free.x3]++[b.Bonded,b.Waiting,b.Burnt]:=⟨_,rfl⟩
 have hlen:l.length=7:=by rw[hl];rfl
 rw[Tr.rg (by show (4+3)*8≤_;omega),Tr.rg (by show 0 < 3;omega),← hl]
 obtain ⟨r,h1,h2⟩:=zgg (F:=fun s:Int×Int×Bank×(List Int)=>(zlw s.1 s.2.1 s.2.2.1 s.2.2.2).run) l.length
  (fun i (_:Unit)=>((l.length:Int),(i:Int),b,l)) (fun i _=>True) (fun i _ r=>match r with | .inl x=>x=false∧¬ (∀ y,y∈l.drop i→okN y) | .inr x=>x=b∧∀ y,y∈l.drop i→okN y) (by
   intro t _
   refine ⟨.inr b,?_,rfl,?_⟩
   ·simp only[zlw];rw[Tr.rf (by simp),Tr.rl]
   ·rw[List.drop_length];intro y hy;cases hy) (by
   intro i t hi _
   have sa:=zaqw (l:=l) (k:=i) hi 0
   simp only[zlw,yy4]
   rw[Tr.rt (by simpa using hi),Tr.rg ⟨by omega,by rw[zer];omega⟩,sa]
   by_cases hx:okN (l.getD i 0)
   ·refine .inl ⟨(),?_,trivial,?_⟩
    ·rw[Tr.rf (zrj hx),Tr.rl,zl (by omega)]
    ·intro r hr
     cases r with
     | inl y=>exact ⟨hr.1,fun h=>hr.2 fun z hz=>h z (List.mem_cons_of_mem _ hz)⟩
     | inr y=>exact ⟨hr.1,fun z hz=>by rcases List.mem_cons.1 hz with rfl | hz;exact hx;exact hr.2 z hz⟩
   ·refine .inr ⟨.inl false,?_,rfl,fun h=>hx (h _ (List.mem_cons_self ..))⟩
    rw[Tr.rt (zwj hx),Tr.rl]) 0 () (by omega) trivial
 have h1:z1m l.length 0 b l=some r:=h1
 have hall:(∀ y,y∈l.drop 0→okN y)↔(okN b.Free.x0∧okN b.Free.x1∧okN b.Free.x2∧okN b.Free.x3∧okN b.Bonded∧okN b.Waiting∧okN b.Burnt):=by
  rw[hl];simp
 cases r with
 | inl x =>
  rw[Tr.ri h1,Tr.rl,h2.1]
  have h3:=h2.2
  rw[hall] at h3
  rw[decide_eq_false]
  rintro ⟨a0,a1,a2,a3,a4,a5,a6,_⟩
  exact h3 ⟨a0,a1,a2,a3,a4,a5,a6⟩
 | inr x =>
  rw[Tr.rj h1,h2.1,Tr.rb (zaqx b),Tr.rl]
  have h3:=h2.2
  rw[hall] at h3
  obtain ⟨a0,a1,a2,a3,a4,a5,a6⟩:=h3
  have hw:i64.wrap (totB b)=totB b:=by
   unfold okN at a0 a1 a2 a3 a4 a5 a6
   unfold totB
   exact zg (by omega) (by omega)
  rw[hw]
  congr 1
  rw[Bool.eq_iff_iff,beq_iff_eq,decide_eq_true_iff]
  exact ⟨fun h=>⟨a0,a1,a2,a3,a4,a5,a6,h⟩,fun h=>h.2.2.2.2.2.2.2⟩
theorem zad2 (b:Bank):znu b=some (decide (zif b)):=by
 rw[znu,zwv,Tr.rb (v:=plA b) (by rw[zs8,zvu,Tr.rl];rfl)]
 have bad:¬ zif b→some false=some (decide (zif b)):=fun h=>by rw[decide_eq_false h]
 by_cases a0:okN b.Free.x0
 ·rw[Tr.rg (by omega),Tr.rf (zrj (x:=(plA b).x0) a0)]
  by_cases a1:okN b.Free.x1
  ·rw[Tr.rg (by omega),Tr.rf (zrj (x:=(plA b).x1) a1)]
   by_cases a2:okN b.Free.x2
   ·rw[Tr.rg (by omega),Tr.rf (zrj (x:=(plA b).x2) a2)]
    by_cases a3:okN b.Free.x3
    ·rw[Tr.rg (by omega),Tr.rf (zrj (x:=(plA b).x3) a3)]
     by_cases a4:okN b.Bonded
     ·rw[Tr.rg (by omega),Tr.rf (zrj (x:=(plA b).x4) a4)]
      by_cases a5:okN b.Waiting
      ·rw[Tr.rg (by omega),Tr.rf (zrj (x:=(plA b).x5) a5)]
       by_cases a6:okN b.Burnt
       ·rw[Tr.rg (by omega),Tr.rf (zrj (x:=(plA b).x6) a6),Tr.rl]
        congr 1
        rw[Bool.eq_iff_iff,beq_iff_eq,decide_eq_true_iff]
        have hg:zif b↔totB b=400000:=⟨fun h=>h.2.2.2.2.2.2.2,fun h=>⟨a0,a1,a2,a3,a4,a5,a6,h⟩⟩
        rw[hg]
        unfold okN at a0 a1 a2 a3 a4 a5 a6
        simp only[IntKind.wrap_i64,totB,plA]
        omega
       ·rw[Tr.rg (by omega),Tr.rt (zwj (x:=(plA b).x6) a6),Tr.rl]
        exact bad fun h=>a6 h.2.2.2.2.2.2.1
      ·rw[Tr.rg (by omega),Tr.rt (zwj (x:=(plA b).x5) a5),Tr.rl]
       exact bad fun h=>a5 h.2.2.2.2.2.1
     ·rw[Tr.rg (by omega),Tr.rt (zwj (x:=(plA b).x4) a4),Tr.rl]
      exact bad fun h=>a4 h.2.2.2.2.1
    ·rw[Tr.rg (by omega),Tr.rt (zwj (x:=(plA b).x3) a3),Tr.rl]
     exact bad fun h=>a3 h.2.2.2.1
   ·rw[Tr.rg (by omega),Tr.rt (zwj (x:=(plA b).x2) a2),Tr.rl]
    exact bad fun h=>a2 h.2.2.1
  ·rw[Tr.rg (by omega),Tr.rt (zwj (x:=(plA b).x1) a1),Tr.rl]
   exact bad fun h=>a1 h.2.1
 ·rw[Tr.rg (by omega),Tr.rt (zwj (x:=(plA b).x0) a0),Tr.rl]
  exact bad fun h=>a0 h.1
def znl (b:Bank) (f t n:Int):Bank:=bkA (((plA b).set f ((plA b).get f - n)).set t ((((plA b).set f ((plA b).get f - n)).get t)+n))
def zct (b:Bank) (f t n:Int):Bank×Int :=
 if ¬ (zif b∧0≤n∧n≤1125899906842624) then (b,2) else if (plA b).get f < n then (b,7) else (znl b f t n,0)
theorem zak6 {b:Bank} (h:zif b) (i:Int):okN ((plA b).get i):=by
 obtain ⟨a0,a1,a2,a3,a4,a5,a6,_⟩:=h
 unfold A7.get plA
 repeat' split
 all_goals assumption
theorem zyn {b:Bank} {f t n:Int} (hf:0≤f∧f < 7) (ht:0≤t∧t < 7):zmt b f t n=some (zct b f t n):=by
 rw[zmt,z88,Tr.rb (zad2 b)]
 simp only[zth,Option.isSome_some,yy2]
 rw[Tr.rg (by simp)]
 unfold zct
 by_cases hg:zif b∧0≤n∧n≤1125899906842624
 ·rw[if_neg (by simpa using hg),Tr.rf (by simpa using hg),Tr.rb (v:=plA b) (by rw[zs8,zvu,Tr.rl];rfl),Tr.rg hf]
  have h1:=zak6 hg.1 f
  unfold okN at h1
  by_cases hl:(plA b).get f < n
  ·rw[if_pos hl,Tr.rt (by simpa using hl),Tr.rl]
  ·rw[if_neg hl,Tr.rf (by simpa using hl),Tr.rg hf,Tr.rg hf,Tr.rg ht,Tr.rg ht,zg (x:=(plA b).get f - n) (by omega) (by omega)]
   have h2:0≤((plA b).set f ((plA b).get f - n)).get t∧((plA b).set f ((plA b).get f - n)).get t≤400000:=by
    obtain ⟨a0,a1,a2,a3,a4,a5,a6,_⟩:=hg.1
    unfold okN at a0 a1 a2 a3 a4 a5 a6
    unfold A7.get A7.set plA
    simp only
    unfold A7.get plA at h1 hl
    simp only at h1 hl
    repeat' split
    all_goals (first | omega | (repeat' split at h1)<;>omega)
   rw[zg (x:=_+n) (by omega) (by omega)]
   rw[Tr.rb (v:=znl b f t n) (by rw[zs9,zvv,Tr.rl];rfl),Tr.rl]
 ·rw[if_pos hg,Tr.rt (by rw[← Bool.not_eq_false];intro k;apply hg;simpa using k),Tr.rl]
theorem zai0 {b:Bank} {d:Int} (h:0≤d∧d < 4):zlx b d=some (d,b,d):=by rw[zlx,zzb,Tr.rg h,Tr.rl]
theorem z24 (b:Bank):zgi b=some b:=by rw[zgi,zze,Tr.rl]
theorem zyo (b:Bank):zfh b=some b:=by rw[zfh,zwq,Tr.rl]
theorem zao7 (b:Bank):zs6 b=some b:=by rw[zs6,z1n,Tr.rl]
theorem zai1 {b:Bank} {d:Int} (h:0≤d∧d < 4):b.Free.get d=(plA b).get d:=by
 unfold A4.get A7.get plA
 repeat' split
 all_goals first | rfl | omega
theorem zaz6 {b:Bank} {d n:Int} (hd:0≤d∧d < 4):zly b n d=some ((zct b d 4 n).1,(zct b d 4 n).2,d):=by
 rw[zly,zzf,Tr.rb (zp9 b)]
 simp only[z9t,Option.isSome_some,yy2]
 rw[Tr.rg (by simp)]
 unfold zct
 by_cases hg:zif b∧0≤n∧n≤1125899906842624
 ·rw[if_neg (by simpa using hg),Tr.rf (by simpa using hg),Tr.rb (zai0 hd)]
  simp only[]
  rw[zai1 hd]
  have h1:=zak6 hg.1 d
  have h2:=zak6 hg.1 4
  unfold okN at h1 h2
  by_cases hl:(plA b).get d < n
  ·rw[if_pos hl,Tr.rt (by simpa using hl),Tr.rl]
  ·rw[if_neg hl,Tr.rf (by simpa using hl),Tr.rb (zai0 hd)]
   simp only[]
   rw[zai1 hd,zg (x:=(plA b).get d - n) (by omega) (by omega),Tr.rb (z24 _),Tr.rl]
   simp only[]
   rw[zg (x:=b.Bonded+n) (by have:(plA b).get 4=b.Bonded:=rfl;omega) (by have:(plA b).get 4=b.Bonded:=rfl;omega)]
   obtain rfl | rfl | rfl | rfl:d=0∨d=1∨d=2∨d=3:=by omega
   all_goals simp[znl,bkA,plA,A7.get,A7.set,A4.set]
 ·rw[if_pos hg,Tr.rt (by rw[← Bool.not_eq_false];intro k;apply hg;simpa using k),Tr.rl]
theorem zaz7 {b:Bank} {d n:Int} (hd:0≤d∧d < 4):zlz b n d=some ((zct b 5 d n).1,(zct b 5 d n).2,d):=by
 rw[zlz,zzh,Tr.rb (zp9 b)]
 simp only[z9t,Option.isSome_some,yy2]
 rw[Tr.rg (by simp)]
 unfold zct
 by_cases hg:zif b∧0≤n∧n≤1125899906842624
 ·have h1:=zak6 hg.1 d
  have h2:okN b.Waiting:=hg.1.2.2.2.2.2.1
  have h5:(plA b).get 5=b.Waiting:=rfl
  unfold okN at h1 h2
  rw[if_neg (by simpa using hg),Tr.rf (by simpa using hg),Tr.rb (zyo _),h5]
  by_cases hl:b.Waiting < n
  ·rw[if_pos hl,Tr.rt (by simpa using hl),Tr.rl]
  ·rw[if_neg hl,Tr.rf (by simpa using hl),Tr.rb (zyo _),Tr.rb (zai0 hd)]
   simp only[]
   rw[Tr.rl,zai1 hd,zg (x:=b.Waiting - n) (by omega) (by omega),zg (x:=(plA b).get d+n) (by omega) (by omega)]
   obtain rfl | rfl | rfl | rfl:d=0∨d=1∨d=2∨d=3:=by omega
   all_goals simp[znl,bkA,plA,A7.get,A7.set,A4.set]
 ·rw[if_pos hg,Tr.rt (by rw[← Bool.not_eq_false];intro k;apply hg;simpa using k),Tr.rl]
theorem zaz8 {b:Bank} {n:Int}:zwr b n=some (zct b 4 5 n):=by
 rw[zwr,zzg,Tr.rb (zp9 b)]
 simp only[z9t,Option.isSome_some,yy2]
 rw[Tr.rg (by simp)]
 unfold zct
 by_cases hg:zif b∧0≤n∧n≤1125899906842624
 ·have h1:okN b.Bonded:=hg.1.2.2.2.2.1
  have h2:okN b.Waiting:=hg.1.2.2.2.2.2.1
  have h5:(plA b).get 4=b.Bonded:=rfl
  unfold okN at h1 h2
  rw[if_neg (by simpa using hg),Tr.rf (by simpa using hg),Tr.rb (z24 _),h5]
  by_cases hl:b.Bonded < n
  ·rw[if_pos hl,Tr.rt (by simpa using hl),Tr.rl]
  ·rw[if_neg hl,Tr.rf (by simpa using hl),Tr.rb (z24 _),Tr.rb (zyo _),Tr.rl]
   simp only[]
   rw[zg (x:=b.Bonded - n) (by omega) (by omega),zg (x:=b.Waiting+n) (by omega) (by omega)]
   simp[znl,bkA,plA,A7.get,A7.set,A4.set]
 ·rw[if_pos hg,Tr.rt (by rw[← Bool.not_eq_false];intro k;apply hg;simpa using k),Tr.rl]
theorem zaz9 {b:Bank} {n:Int}:zws b n=some (zct b 4 6 n):=by
 rw[zws,zzi,Tr.rb (zp9 b)]
 simp only[z9t,Option.isSome_some,yy2]
 rw[Tr.rg (by simp)]
 unfold zct
 by_cases hg:zif b∧0≤n∧n≤1125899906842624
 ·have h1:okN b.Bonded:=hg.1.2.2.2.2.1
  have h2:okN b.Burnt:=hg.1.2.2.2.2.2.2.1
  have h5:(plA b).get 4=b.Bonded:=rfl
  unfold okN at h1 h2
  rw[if_neg (by simpa using hg),Tr.rf (by simpa using hg),Tr.rb (z24 _),h5]
  by_cases hl:b.Bonded < n
  ·rw[if_pos hl,Tr.rt (by simpa using hl),Tr.rl]
  ·rw[if_neg hl,Tr.rf (by simpa using hl),Tr.rb (z24 _),Tr.rb (zao7 _),Tr.rl]
   simp only[]
   rw[zg (x:=b.Bonded - n) (by omega) (by omega),zg (x:=b.Burnt+n) (by omega) (by omega)]
   simp[znl,bkA,plA,A7.get,A7.set,A4.set]
 ·rw[if_pos hg,Tr.rt (by rw[← Bool.not_eq_false];intro k;apply hg;simpa using k),Tr.rl]
theorem za0a {b:Bank} {n:Int}:zwt b n=some (zct b 5 6 n):=by
 rw[zwt,zzj,Tr.rb (zp9 b)]
 simp only[z9t,Option.isSome_some,yy2]
 rw[Tr.rg (by simp)]
 unfold zct
 by_cases hg:zif b∧0≤n∧n≤1125899906842624
 ·have h1:okN b.Waiting:=hg.1.2.2.2.2.2.1
  have h2:okN b.Burnt:=hg.1.2.2.2.2.2.2.1
  have h5:(plA b).get 5=b.Waiting:=rfl
  unfold okN at h1 h2
  rw[if_neg (by simpa using hg),Tr.rf (by simpa using hg),Tr.rb (zyo _),h5]
  by_cases hl:b.Waiting < n
  ·rw[if_pos hl,Tr.rt (by simpa using hl),Tr.rl]
  ·rw[if_neg hl,Tr.rf (by simpa using hl),Tr.rb (zyo _),Tr.rb (zao7 _),Tr.rl]
   simp only[]
   rw[zg (x:=b.Waiting - n) (by omega) (by omega),zg (x:=b.Burnt+n) (by omega) (by omega)]
   simp[znl,bkA,plA,A7.get,A7.set,A4.set]
 ·rw[if_pos hg,Tr.rt (by rw[← Bool.not_eq_false];intro k;apply hg;simpa using k),Tr.rl]
def zti (b:Bank) (d n:Int):Bank×Int:=if d < 0∨3 < d then (b,4) else zct b d 4 n
def payB (b:Bank) (d n:Int):Bank×Int:=if d < 0∨3 < d then (b,4) else zct b 5 d n
def zai2 (b:Bank) (x y:Int):Bank×Int :=
 if (zct b 4 6 x).2≠0 then (b,(zct b 4 6 x).2) else if (zct (zct b 4 6 x).1 5 6 y).2≠0 then (b,(zct (zct b 4 6 x).1 5 6 y).2) else ((zct (zct b 4 6 x).1 5 6 y).1,0)
theorem zat3 {b:Bank} {d n:Int}:zvs b d n=some (zti b d n):=by
 rw[zvs,z5m,Tr.rb (v:=decide (0≤d∧d < 4)) (by rw[zkw,zmf,Tr.rl,Bool.decide_and])]
 unfold zti
 by_cases hd:0≤d∧d < 4
 ·have e1:zdi d=some d:=by rw[zdi,zzd,Tr.rl]
  rw[if_neg (by omega),Tr.rf (by simpa using hd)]
  simp only[e1,zaz6 hd,Option.isSome_some,yy2]
  rw[Tr.rg (by trivial),Tr.rg (by trivial),Tr.rl]
 ·rw[if_pos (by omega),Tr.rt (by simp;omega),Tr.rl]
theorem za7p {b:Bank} {d n:Int}:z5n b d n=some (payB b d n):=by
 rw[z5n,z87,Tr.rb (v:=decide (0≤d∧d < 4)) (by rw[zkw,zmf,Tr.rl,Bool.decide_and])]
 unfold payB
 by_cases hd:0≤d∧d < 4
 ·have e1:zdi d=some d:=by rw[zdi,zzd,Tr.rl]
  rw[if_neg (by omega),Tr.rf (by simpa using hd)]
  simp only[e1,zaz7 hd,Option.isSome_some,yy2]
  rw[Tr.rg (by trivial),Tr.rg (by trivial),Tr.rl]
 ·rw[if_pos (by omega),Tr.rt (by simp;omega),Tr.rl]
theorem zak7 {b:Bank} {n:Int}:zl0 b n=some (zct b 4 5 n):=by
 rw[zl0,zzk,Tr.rb zaz8,Tr.rl]
theorem za7q {b:Bank} {x y:Int}:z1p b x y=some (zai2 b x y):=by
 rw[z1p,z5o,Tr.rb zaz9]
 unfold zai2
 by_cases h:(zct b 4 6 x).2=0
 ·rw[if_neg (by simpa using h),Tr.rf (by simpa using h),Tr.rb za0a]
  by_cases h2:(zct (zct b 4 6 x).1 5 6 y).2=0
  ·rw[if_neg (by simpa using h2),Tr.rf (by simpa using h2),Tr.rl]
  ·rw[if_pos h2,Tr.rt (by simpa using h2),Tr.rl]
 ·rw[if_pos h,Tr.rt (by simpa using h),Tr.rl]
theorem zagt {b:Bank} {d n:Int}:zzn b d n=some (zti b d n):=by
 rw[zzn,z89]
 unfold zti
 by_cases hd:d < 0∨3 < d
 ·rw[if_pos hd,Tr.rt (by simpa using hd),Tr.rl]
 ·rw[if_neg hd,Tr.rf (by simp;omega),Tr.rb (zyn (by omega) (by omega)),Tr.rl]
theorem zat4 {b:Bank} {d n:Int}:z9a b d n=some (payB b d n):=by
 rw[z9a,zacy]
 unfold payB
 by_cases hd:d < 0∨3 < d
 ·rw[if_pos hd,Tr.rt (by simpa using hd),Tr.rl]
 ·rw[if_neg hd,Tr.rf (by simp;omega),Tr.rb (zyn (by omega) (by omega)),Tr.rl]
theorem zak8 {b:Bank} {n:Int}:zta b n=some (zct b 4 5 n):=by
 rw[zta,z1v,Tr.rb (zyn (by omega) (by omega)),Tr.rl]
theorem zaqy {b:Bank} {x y:Int}:z5r b x y=some (zai2 b x y):=by
 rw[z5r,z9b,Tr.rb (zyn (by omega) (by omega))]
 unfold zai2
 by_cases h:(zct b 4 6 x).2=0
 ·rw[if_neg (by simpa using h),Tr.rf (by simpa using h),Tr.rb (zyn (by omega) (by omega))]
  by_cases h2:(zct (zct b 4 6 x).1 5 6 y).2=0
  ·rw[if_neg (by simpa using h2),Tr.rf (by simpa using h2),Tr.rl]
  ·rw[if_pos h2,Tr.rt (by simpa using h2),Tr.rl]
 ·rw[if_pos h,Tr.rt (by simpa using h),Tr.rl]
def newB:Bank:=⟨⟨100000,100000,100000,100000⟩,0,0,0⟩
theorem zaqz:z5i=some newB:=by
 have key:zwn 0 (⟨(⟨0,0,0,0⟩:(A4 Int)),0,0,0⟩:Bank) (⟨(⟨0,0,0,0⟩:(A4 Int)),0,0,0⟩:Bank)=some (⟨⟨0,0,0,0⟩,0,0,0⟩,newB):=by
  rw[zwn]
  refine (zme (s':=(1,⟨⟨0,0,0,0⟩,0,0,0⟩,⟨⟨100000,0,0,0⟩,0,0,0⟩)) ?_).trans ((zme (s':=(2,⟨⟨0,0,0,0⟩,0,0,0⟩,⟨⟨100000,100000,0,0⟩,0,0,0⟩)) ?_).trans ((zme (s':=(3,⟨⟨0,0,0,0⟩,0,0,0⟩,⟨⟨100000,100000,100000,0⟩,0,0,0⟩)) ?_).trans ((zme (s':=(4,⟨⟨0,0,0,0⟩,0,0,0⟩,newB)) ?_).trans (zrh ?_))))
  ·simp only[zht];rw[Tr.rt (by rfl),Tr.rg (by omega),Tr.rl];rfl
  ·simp only[zht];rw[Tr.rt (by rfl),Tr.rg (by omega),Tr.rl];rfl
  ·simp only[zht];rw[Tr.rt (by rfl),Tr.rg (by omega),Tr.rl];rfl
  ·simp only[zht];rw[Tr.rt (by rfl),Tr.rg (by omega),Tr.rl];rfl
  ·simp only[zht];rw[Tr.rf (by rfl),Tr.rl]
 rw[z5i,z85,Tr.rb key,Tr.rl]
theorem zat5:zwu=some newB:=by
 rw[zwu,zzl,Tr.rb (v:=newB) (by rw[zs9,zvv,Tr.rl];rfl),Tr.rl]
theorem zat6 {b:Bank} {f t n:Int} (h:(zct b f t n).2≠0):(zct b f t n).1=b:=by
 unfold zct at h ⊢
 split
 ·rfl
 ·split
  ·rfl
  ·rename_i h1 h2
   rw[if_neg h1,if_neg h2] at h
   exact absurd rfl h
theorem zai3 {b:Bank} {f t n:Int} (h:(zct b f t n).2=0):zif b∧0≤n∧n≤1125899906842624∧n≤(plA b).get f∧zct b f t n=(znl b f t n,0):=by
 unfold zct at h ⊢
 by_cases h1:zif b∧0≤n∧n≤1125899906842624
 ·rw[if_neg (by simpa using h1)] at h ⊢
  by_cases h2:(plA b).get f < n
  ·rw[if_pos h2] at h;cases h
  ·rw[if_neg h2]
   exact ⟨h1.1,h1.2.1,h1.2.2,by omega,rfl⟩
 ·rw[if_pos h1] at h;cases h
def road (f t:Int):Prop:=((f=0∨f=1∨f=2∨f=3)∧t=4)∨(f=4∧t=5)∨(f=5∧(t=0∨t=1∨t=2∨t=3))∨(f=4∧t=6)∨(f=5∧t=6)
theorem zvb {b:Bank} {f t n:Int} (hr:road f t) (hg:zif b) (h0:0≤n) (h1:n≤(plA b).get f):zif (znl b f t n)∧b.Burnt≤(znl b f t n).Burnt:=by
 obtain ⟨a0,a1,a2,a3,a4,a5,a6,a7⟩:=hg
 unfold okN at a0 a1 a2 a3 a4 a5 a6
 unfold totB at a7
 unfold road at hr
 rcases hr with ⟨rfl | rfl | rfl | rfl,rfl⟩ | ⟨rfl,rfl⟩ | ⟨rfl,rfl | rfl | rfl | rfl⟩ | ⟨rfl,rfl⟩ | ⟨rfl,rfl⟩
 all_goals
  simp[plA,A7.get] at h1
  simp[zif,okN,totB,znl,bkA,plA,A7.get,A7.set]
  omega
def kept (b:Bank) (v:Bank×Int):Prop:=(v.2≠0∧v.1=b)∨(v.2=0∧zif b∧zif v.1∧b.Burnt≤v.1.Burnt)
theorem zat7 {b:Bank} {f t n:Int} (hr:road f t):kept b (zct b f t n):=by
 by_cases h:(zct b f t n).2=0
 ·obtain ⟨h1,h2,h3,h4,h5⟩:=zai3 h
  obtain ⟨k1,k2⟩:=zvb hr h1 h2 h4
  rw[h5]
  exact .inr ⟨rfl,h1,k1,k2⟩
 ·exact .inl ⟨h,zat6 h⟩
theorem zat8 {b:Bank} {d n:Int}:kept b (zti b d n):=by
 unfold zti
 split
 ·exact .inl ⟨by simp,rfl⟩
 ·exact zat7 (.inl ⟨by omega,rfl⟩)
theorem zai4 {b:Bank} {f t n:Int} (h1:zif b) (h2:0≤n) (h3:n≤1125899906842624) (h4:n≤(plA b).get f):zct b f t n=(znl b f t n,0):=by
 unfold zct
 rw[if_neg (by simp;exact ⟨h1,h2,h3⟩),if_neg (by omega)]
theorem z3l {σ τ β γ:Type} {F:σ→Option (σ⊕(β⊕γ))} (n:Nat) (mk:Nat→τ→σ) (g:τ→Nat→τ) (p:Nat→Prop) (bad:β) (out:τ→γ)
  (hend:∀ t,F (mk n t)=some (.inr (.inr (out t)))) (hok:∀ i t,i < n→p i→F (mk i t)=some (.inl (mk (i+1) (g t i))))
  (hbad:∀ i t,i < n→¬ p i→F (mk i t)=some (.inr (.inl bad))) (t:τ) :
  ((∀ i,i < n→p i)∧zbl F (mk 0 t)=some (.inr (out ((List.range n).foldl g t))))∨((¬ ∀ i,i < n→p i)∧zbl F (mk 0 t)=some (.inl bad)):=by
 obtain ⟨r,h1,h2⟩:=zgg (F:=F) n mk (fun _ _=>True)
  (fun i t r=>((∀ j,i≤j→j < n→p j)∧r=.inr (out (((List.range n).drop i).foldl g t)))∨((¬ ∀ j,i≤j→j < n→p j)∧r=.inl bad)) (by
   intro t _
   refine ⟨_,hend t,.inl ⟨fun j h1 h2=>by omega,?_⟩⟩
   rw[List.drop_eq_nil_of_le (by rw[List.length_range];omega)];rfl) (by
   intro i t hi _
   have hs:=z6 (l:=List.range n) (k:=i) (by rw[List.length_range];exact hi) 0
   rw[znj hi] at hs
   by_cases hp:p i
   ·refine .inl ⟨g t i,hok i t hi hp,trivial,fun r hr=>?_⟩
    rcases hr with ⟨h1,h2⟩ | ⟨h1,h2⟩
    ·refine .inl ⟨fun j h3 h4=>?_,?_⟩
     ·by_cases he:j=i
      ·rw[he];exact hp
      ·exact h1 j (by omega) h4
     ·rw[h2,hs,List.foldl_cons]
    ·exact .inr ⟨fun h=>h1 fun j h3 h4=>h j (by omega) h4,h2⟩
   ·exact .inr ⟨_,hbad i t hi hp,.inr ⟨fun h=>hp (h i (Nat.le_refl _) hi),rfl⟩⟩) 0 t (Nat.zero_le _) trivial
 rcases h2 with ⟨h2,h3⟩ | ⟨h2,h3⟩
 ·exact .inl ⟨fun i hi=>h2 i (Nat.zero_le _) hi,by rw[h1,h3,List.drop_zero]⟩
 ·exact .inr ⟨fun h=>h2 fun j _ h4=>h j h4,by rw[h1,h3]⟩
theorem z2 (l:List Wait):Sl.len (.waits l)=l.length:=rfl
abbrev inA (n:Int):Prop:=0≤n∧n≤1125899906842624
abbrev shr (s:Stake) (d v:Int):Int:=A46.get s.Shares d v
def zad3 (s:Stake) (v:Int):Int:=shr s 0 v+shr s 1 v+shr s 2 v+shr s 3 v
def okV (T S L:Int) (J D:Bool):Prop:=inA T∧inA S∧inA L∧¬ (S=0∧0 < T)∧¬ (D=true∧J=false)
instance (T S L:Int) (J D:Bool):Decidable (okV T S L J D):=inferInstanceAs (Decidable (_∧_))
def zabc (s:Stake) (v:Int):Prop :=
 okV (s.Validators.Tokens.get v) (s.Validators.Shares.get v) (s.Validators.Lost.get v) (s.Validators.Jailed.get v) (s.Validators.Dead.get v)∧(∀ d:Nat,d < 4→inA (shr s d v))∧zad3 s v=s.Validators.Shares.get v
instance (s:Stake) (v:Int):Decidable (zabc s v):=inferInstanceAs (Decidable (_∧_))
def zai5 (next last:Int) (w:Wait):Prop:=last < w.Number∧w.Number < next∧0≤w.D∧w.D < 4∧0≤w.V∧w.V < 6∧inA w.Amount∧0≤w.Height∧0≤w.Due
instance (n l:Int) (w:Wait):Decidable (zai5 n l w):=inferInstanceAs (Decidable (_∧_))
def zhq (next:Int):Int→List Wait→Prop
 | _,[]=>True
 | last,w::l=>zai5 next last w∧zhq next w.Number l
def zbhm (next:Int):(last:Int)→(l:List Wait)→Decidable (zhq next last l)
 | _,[]=>isTrue trivial
 | last,w::l=>@instDecidableAnd _ _ (inferInstanceAs (Decidable (zai5 next last w))) (zbhm next w.Number l)
instance (n p:Int) (l:List Wait):Decidable (zhq n p l):=zbhm n p l
def zvf:List Wait→Int
 | []=>0
 | w::l=>w.Amount+zvf l
def sum6 (a:A6 Int):Int:=a.x0+a.x1+a.x2+a.x3+a.x4+a.x5
def GoodS (s:Stake):Prop:=zif s.Bank∧(1≤s.Next∧s.Next≤1125899906842624∧s.Waits.length≤60)∧(∀ v:Nat,v < 6→zabc s v)∧zhq s.Next 0 s.Waits ∧
 sum6 s.Validators.Tokens=s.Bank.Bonded∧zvf s.Waits=s.Bank.Waiting∧sum6 s.Validators.Lost=s.Bank.Burnt
instance (s:Stake):Decidable (GoodS s):=inferInstanceAs (Decidable (_∧_))
def vsA (s:Stake):A6 zi:=⟨⟨s.Validators.Tokens.x0,s.Validators.Shares.x0,s.Validators.Lost.x0,s.Validators.Jailed.x0,s.Validators.Dead.x0⟩,⟨s.Validators.Tokens.x1,s.Validators.Shares.x1,s.Validators.Lost.x1,s.Validators.Jailed.x1,s.Validators.Dead.x1⟩,
 ⟨s.Validators.Tokens.x2,s.Validators.Shares.x2,s.Validators.Lost.x2,s.Validators.Jailed.x2,s.Validators.Dead.x2⟩,⟨s.Validators.Tokens.x3,s.Validators.Shares.x3,s.Validators.Lost.x3,s.Validators.Jailed.x3,s.Validators.Dead.x3⟩,
 ⟨s.Validators.Tokens.x4,s.Validators.Shares.x4,s.Validators.Lost.x4,s.Validators.Jailed.x4,s.Validators.Dead.x4⟩,⟨s.Validators.Tokens.x5,s.Validators.Shares.x5,s.Validators.Lost.x5,s.Validators.Jailed.x5,s.Validators.Dead.x5⟩⟩
theorem zaq0 (s:Stake):(⟨(vsA s).x0.Tokens,(vsA s).x1.Tokens,(vsA s).x2.Tokens,(vsA s).x3.Tokens,(vsA s).x4.Tokens,(vsA s).x5.Tokens⟩:A6 Int)=s.Validators.Tokens:=rfl
theorem za0b (s:Stake):(⟨(vsA s).x0.Shares,(vsA s).x1.Shares,(vsA s).x2.Shares,(vsA s).x3.Shares,(vsA s).x4.Shares,(vsA s).x5.Shares⟩:A6 Int)=s.Validators.Shares:=rfl
theorem za0c (s:Stake):(⟨(vsA s).x0.Lost,(vsA s).x1.Lost,(vsA s).x2.Lost,(vsA s).x3.Lost,(vsA s).x4.Lost,(vsA s).x5.Lost⟩:A6 Int)=s.Validators.Lost:=rfl
theorem zaq1 (s:Stake):(⟨(vsA s).x0.Jailed,(vsA s).x1.Jailed,(vsA s).x2.Jailed,(vsA s).x3.Jailed,(vsA s).x4.Jailed,(vsA s).x5.Jailed⟩:A6 Bool)=s.Validators.Jailed:=rfl
theorem za0d (s:Stake):(⟨(vsA s).x0.Dead,(vsA s).x1.Dead,(vsA s).x2.Dead,(vsA s).x3.Dead,(vsA s).x4.Dead,(vsA s).x5.Dead⟩:A6 Bool)=s.Validators.Dead:=rfl
theorem zagu (a:A4 (A6 Int)) (d v:Int):A6.get ⟨A4.get ⟨a.x0.x0,a.x1.x0,a.x2.x0,a.x3.x0⟩ d,A4.get ⟨a.x0.x1,a.x1.x1,a.x2.x1,a.x3.x1⟩ d,A4.get ⟨a.x0.x2,a.x1.x2,a.x2.x2,a.x3.x2⟩ d,A4.get ⟨a.x0.x3,a.x1.x3,a.x2.x3,a.x3.x3⟩ d,A4.get ⟨a.x0.x4,a.x1.x4,a.x2.x4,a.x3.x4⟩ d,A4.get ⟨a.x0.x5,a.x1.x5,a.x2.x5,a.x3.x5⟩ d⟩ v=A46.get a d v:=by
 unfold A46.get A4.get
 by_cases h0:d=0
 ·simp only[if_pos h0]
 ·by_cases h1:d=1
  ·simp only[if_neg h0,if_pos h1]
  ·by_cases h2:d=2
   ·simp only[if_neg h0,if_neg h1,if_pos h2]
   ·simp only[if_neg h0,if_neg h1,if_neg h2]
theorem zao8 {s:Stake} {v:Int} (h:∀ d:Nat,d < 4→inA (shr s d v)):(List.range 4).foldl (fun t (d:Nat)=>i64.wrap (t+shr s d v)) 0=zad3 s v:=by
 show i64.wrap (i64.wrap (i64.wrap (i64.wrap (0+shr s 0 v)+shr s 1 v)+shr s 2 v)+shr s 3 v)=_
 have h0:inA (shr s 0 v):=h 0 (by omega)
 have h1:inA (shr s 1 v):=h 1 (by omega)
 have h2:inA (shr s 2 v):=h 2 (by omega)
 have h3:inA (shr s 3 v):=h 3 (by omega)
 unfold zad3
 simp only[IntKind.wrap_i64]
 omega
theorem zao9 (s:Stake) {v:Nat} (hv:v < 6) (x0 x1 x2 x6:Int) (a:A6 zi) (x9:zi) :
  ((∀ d:Nat,d < 4→inA (shr s d v))∧zry x0 x1 x2 v 0 a x6 0 s x9=some (.inr (x0,x1,x2,zad3 s v,a,x6,s,x9))) ∨
  ((¬ ∀ d:Nat,d < 4→inA (shr s d v))∧zry x0 x1 x2 v 0 a x6 0 s x9=some (.inl false)):=by
 have:=z3l (F:=fun s:Int×Int×Int×Int×Int×(A6 zi)×Int×Int×Stake×zi=>(zg8 s.1 s.2.1 s.2.2.1 s.2.2.2.1 s.2.2.2.2.1 s.2.2.2.2.2.1 s.2.2.2.2.2.2.1 s.2.2.2.2.2.2.2.1 s.2.2.2.2.2.2.2.2.1 s.2.2.2.2.2.2.2.2.2).run) 4
  (fun i t=>(x0,x1,x2,(v:Int),t,a,x6,(i:Int),s,x9)) (fun t (d:Nat)=>i64.wrap (t+shr s d v)) (fun d=>inA (shr s d v)) false (fun t=>(x0,x1,x2,t,a,x6,s,x9)) (by
   intro t
   simp only[zg8];rw[Tr.rf (by rfl),Tr.rl]) (by
   intro i t hi hp
   simp only[zg8]
   rw[Tr.rt (by simp;omega),Tr.rg (by omega),Tr.rg (by omega),Tr.rb (z9t _),Tr.rf (by simpa using hp),Tr.rg (by omega),Tr.rg (by omega),Tr.rl,zl (by omega)]) (by
   intro i t hi hp
   simp only[zg8]
   rw[Tr.rt (by simp;omega),Tr.rg (by omega),Tr.rg (by omega),Tr.rb (z9t _),Tr.rt (by rw[Bool.not_eq_true',yy8];exact hp),Tr.rl]) 0
 rcases this with ⟨h1,h2⟩ | ⟨h1,h2⟩
 ·rw[zao8 h1] at h2;exact .inl ⟨h1,h2⟩
 ·exact .inr ⟨h1,h2⟩
theorem zapa (s:Stake) {v:Nat} (hv:v < 6) (x0 x1 x5:Int) (a:A6 zi) (x9:zi) :
  ((∀ d:Nat,d < 4→inA (shr s d v))∧zm4 x0 x1 v 0 a x5 s.Shares 0 s x9=some (.inr (x0,x1,zad3 s v,a,x5,s,x9))) ∨
  ((¬ ∀ d:Nat,d < 4→inA (shr s d v))∧zm4 x0 x1 v 0 a x5 s.Shares 0 s x9=some (.inl false)):=by
 have:=z3l (F:=fun s:Int×Int×Int×Int×(A6 zi)×Int×(A4 (A6 Int))×Int×Stake×zi=>(zem s.1 s.2.1 s.2.2.1 s.2.2.2.1 s.2.2.2.2.1 s.2.2.2.2.2.1 s.2.2.2.2.2.2.1 s.2.2.2.2.2.2.2.1 s.2.2.2.2.2.2.2.2.1 s.2.2.2.2.2.2.2.2.2).run) 4
  (fun i t=>(x0,x1,(v:Int),t,a,x5,s.Shares,(i:Int),s,x9)) (fun t (d:Nat)=>i64.wrap (t+shr s d v)) (fun d=>inA (shr s d v)) false (fun t=>(x0,x1,t,a,x5,s,x9)) (by
   intro t
   simp only[zem];rw[Tr.rf (by rfl),Tr.rl]) (by
   intro i t hi hp
   simp only[zem]
   rw[zagu,Tr.rt (by simp;omega),Tr.rg (by omega),Tr.rg (by omega),Tr.rb (zth _),Tr.rf (by simpa using hp),Tr.rg (by omega),Tr.rl,zl (by omega)]) (by
   intro i t hi hp
   simp only[zem]
   rw[zagu,Tr.rt (by simp;omega),Tr.rg (by omega),Tr.rg (by omega),Tr.rb (zth _),Tr.rt (by rw[Bool.not_eq_true',yy8];exact hp),Tr.rl]) 0
 rcases this with ⟨h1,h2⟩ | ⟨h1,h2⟩
 ·rw[zao8 h1] at h2;exact .inl ⟨h1,h2⟩
 ·exact .inr ⟨h1,h2⟩
theorem zat9 (T S L:Int) (J D:Bool):(((((!(decide (0≤T∧T≤1125899906842624)))||(!(decide (0≤S∧S≤1125899906842624))))||(!(decide (0≤L∧L≤1125899906842624))))||((S==0)&&(decide (T > 0))))||(D&&(!J))) = !decide (okV T S L J D):=by
 rw[Bool.eq_iff_iff]
 unfold okV inA
 cases J<;>cases D<;>simp<;>omega
theorem za3y (n T S L:Int) (J D:Bool):(((((!(decide (0≤T∧T≤1125899906842624)))||(!(decide (0≤S∧S≤1125899906842624))))||(!(decide (0≤L∧L≤1125899906842624))))||(n != S))||((n==0)&&(T != 0))||(D&&(!J))) = !decide (okV T S L J D∧n=S):=by
 rw[Bool.eq_iff_iff]
 unfold okV inA
 cases J<;>cases D<;>simp<;>omega
theorem zapb {f g:Nat→Int} (hf:∀ v:Nat,v < 6→inA (f v)) (hg:∀ v:Nat,v < 6→inA (g v)) :
  (List.range 6).foldl (fun (t:Int×Int) (v:Nat)=>(i64.wrap (t.1+f v),i64.wrap (t.2+g v))) (0,0)=(f 0+f 1+f 2+f 3+f 4+f 5,g 0+g 1+g 2+g 3+g 4+g 5):=by
 show (i64.wrap (i64.wrap (i64.wrap (i64.wrap (i64.wrap (i64.wrap (0+f 0)+f 1)+f 2)+f 3)+f 4)+f 5),i64.wrap (i64.wrap (i64.wrap (i64.wrap (i64.wrap (i64.wrap (0+g 0)+g 1)+g 2)+g 3)+g 4)+g 5))=_
 have e:∀ f:Nat→Int,(∀ v:Nat,v < 6→inA (f v))→i64.wrap (i64.wrap (i64.wrap (i64.wrap (i64.wrap (i64.wrap (0+f 0)+f 1)+f 2)+f 3)+f 4)+f 5)=f 0+f 1+f 2+f 3+f 4+f 5:=by
  intro f hf
  have h0:=hf 0 (by omega);have h1:=hf 1 (by omega);have h2:=hf 2 (by omega);have h3:=hf 3 (by omega);have h4:=hf 4 (by omega);have h5:=hf 5 (by omega)
  unfold inA at h0 h1 h2 h3 h4 h5
  rw[zg (x:=0+f 0) (by omega) (by omega),zg (x:=_+f 1) (by omega) (by omega),zg (x:=_+f 2) (by omega) (by omega),zg (x:=_+f 3) (by omega) (by omega),zg (x:=_+f 4) (by omega) (by omega),zg (x:=_+f 5) (by omega) (by omega)]
  omega
 rw[e f hf,e g hg]
theorem za0e (s:Stake) :
  ((∀ v:Nat,v < 6→zabc s v)∧zrz 0 0 0 (vsA s) 0 s=some (.inr (sum6 s.Validators.Tokens,0,sum6 s.Validators.Lost,s)))∨((¬ ∀ v:Nat,v < 6→zabc s v)∧zrz 0 0 0 (vsA s) 0 s=some (.inl false)):=by
 have:=z3l (F:=fun s:Int×Int×Int×(A6 zi)×Int×Stake=>(zg9 s.1 s.2.1 s.2.2.1 s.2.2.2.1 s.2.2.2.2.1 s.2.2.2.2.2).run) 6
  (fun i (t:Int×Int)=>(t.1,0,t.2,vsA s,(i:Int),s)) (fun t (v:Nat)=>(i64.wrap (t.1+s.Validators.Tokens.get v),i64.wrap (t.2+s.Validators.Lost.get v))) (fun v=>zabc s v) false (fun t=>(t.1,0,t.2,s)) (by
   intro t
   simp only[zg9];rw[Tr.rf (by rfl),Tr.rl]) (by
   rintro i ⟨t1,t2⟩ hi ⟨hp1,hp2,hp3⟩
   simp only[zg9]
   rw[zaq0,za0b,za0c,zaq1,za0d,Tr.rt (by simp;omega),Tr.rg (by omega),Tr.rb (z9t _)]
   simp only[z9t,Option.isSome_some,yy2]
   rw[Tr.rg (by simp),Tr.rg (by simp),Tr.rf (by rw[zat9];simpa using hp1)]
   rcases zao9 s hi t1 0 t2 i (vsA s) (⟨s.Validators.Tokens.get i,s.Validators.Shares.get i,s.Validators.Lost.get i,s.Validators.Jailed.get i,s.Validators.Dead.get i⟩:zi) with ⟨k1,k2⟩ | ⟨k1,k2⟩
   ·rw[Tr.rj k2]
    simp only[]
    rw[Tr.rf (by simpa using hp3),Tr.rl,zl (by omega)]
   ·exact absurd hp2 k1) (by
   rintro i ⟨t1,t2⟩ hi hp
   simp only[zg9]
   rw[zaq0,za0b,za0c,zaq1,za0d,Tr.rt (by simp;omega),Tr.rg (by omega),Tr.rb (z9t _)]
   simp only[z9t,Option.isSome_some,yy2]
   rw[Tr.rg (by simp),Tr.rg (by simp)]
   by_cases hp1:okV (s.Validators.Tokens.get i) (s.Validators.Shares.get i) (s.Validators.Lost.get i) (s.Validators.Jailed.get i) (s.Validators.Dead.get i)
   ·rw[Tr.rf (by rw[zat9];simpa using hp1)]
    rcases zao9 s hi t1 0 t2 i (vsA s) (⟨s.Validators.Tokens.get i,s.Validators.Shares.get i,s.Validators.Lost.get i,s.Validators.Jailed.get i,s.Validators.Dead.get i⟩:zi) with ⟨k1,k2⟩ | ⟨k1,k2⟩
    ·rw[Tr.rj k2]
     simp only[]
     rw[Tr.rt (by simpa using fun h=>hp ⟨hp1,k1,h⟩),Tr.rl]
    ·rw[Tr.ri k2,Tr.rl]
   ·rw[Tr.rt (by rw[zat9];simpa using hp1),Tr.rl]) (0,0)
 rcases this with ⟨h1,h2⟩ | ⟨h1,h2⟩
 ·rw[zapb (f:=fun v=>s.Validators.Tokens.get v) (g:=fun v=>s.Validators.Lost.get v) (fun v hv=>(h1 v hv).1.1) (fun v hv=>(h1 v hv).1.2.2.1)] at h2
  exact .inl ⟨h1,h2⟩
 ·exact .inr ⟨h1,h2⟩
theorem za0f (s:Stake) :
  ((∀ v:Nat,v < 6→zabc s v)∧zm5 0 0 (vsA s) 0 s=some (.inr (sum6 s.Validators.Tokens,sum6 s.Validators.Lost,s)))∨((¬ ∀ v:Nat,v < 6→zabc s v)∧zm5 0 0 (vsA s) 0 s=some (.inl false)):=by
 have:=z3l (F:=fun s:Int×Int×(A6 zi)×Int×Stake=>(zen s.1 s.2.1 s.2.2.1 s.2.2.2.1 s.2.2.2.2).run) 6
  (fun i (t:Int×Int)=>(t.1,t.2,vsA s,(i:Int),s)) (fun t (v:Nat)=>(i64.wrap (t.1+s.Validators.Tokens.get v),i64.wrap (t.2+s.Validators.Lost.get v))) (fun v=>zabc s v) false (fun t=>(t.1,t.2,s)) (by
   intro t
   simp only[zen];rw[Tr.rf (by rfl),Tr.rl]) (by
   rintro i ⟨t1,t2⟩ hi ⟨hp1,hp2,hp3⟩
   simp only[zen]
   rw[zaq0,za0b,za0c,zaq1,za0d,Tr.rt (by simp;omega),Tr.rg (by omega)]
   rcases zapa s hi t1 t2 i (vsA s) (⟨s.Validators.Tokens.get i,s.Validators.Shares.get i,s.Validators.Lost.get i,s.Validators.Jailed.get i,s.Validators.Dead.get i⟩:zi) with ⟨k1,k2⟩ | ⟨k1,k2⟩
   ·rw[Tr.rj k2]
    simp only[]
    rw[Tr.rb (zth _)]
    simp only[zth,Option.isSome_some,yy2]
    rw[Tr.rg (by simp),Tr.rg (by simp),Tr.rf (by rw[za3y];simpa using ⟨hp1,hp3⟩),Tr.rl,zl (by omega)]
   ·exact absurd hp2 k1) (by
   rintro i ⟨t1,t2⟩ hi hp
   simp only[zen]
   rw[zaq0,za0b,za0c,zaq1,za0d,Tr.rt (by simp;omega),Tr.rg (by omega)]
   rcases zapa s hi t1 t2 i (vsA s) (⟨s.Validators.Tokens.get i,s.Validators.Shares.get i,s.Validators.Lost.get i,s.Validators.Jailed.get i,s.Validators.Dead.get i⟩:zi) with ⟨k1,k2⟩ | ⟨k1,k2⟩
   ·rw[Tr.rj k2]
    simp only[]
    rw[Tr.rb (zth _)]
    simp only[zth,Option.isSome_some,yy2]
    rw[Tr.rg (by simp),Tr.rg (by simp),Tr.rt (by rw[za3y,Bool.not_eq_true',yy8];exact fun h=>hp ⟨h.1,k1,h.2⟩),Tr.rl]
   ·rw[Tr.ri k2,Tr.rl]) (0,0)
 rcases this with ⟨h1,h2⟩ | ⟨h1,h2⟩
 ·rw[zapb (f:=fun v=>s.Validators.Tokens.get v) (g:=fun v=>s.Validators.Lost.get v) (fun v hv=>(h1 v hv).1.1) (fun v hv=>(h1 v hv).1.2.2.1)] at h2
  exact .inl ⟨h1,h2⟩
 ·exact .inr ⟨h1,h2⟩
def zabd (l:List Wait) (i:Nat):Int:=if i=0 then 0 else (l.getD (i - 1) default).Number
theorem zaq2 (l:List Wait) (i:Nat):zabd l (i+1)=(l.getD i default).Number:=by unfold zabd;rw[if_neg (by omega),Nat.add_sub_cancel]
theorem za0g {s:Stake} (hl:s.Waits.length≤60) (x0 x2:Int) :
  (zhq s.Next 0 s.Waits∧zmj x0 0 x2 s.Waits s.Waits.length 0 s=some (.inr (x0,zvf s.Waits,x2,s)))∨(¬ zhq s.Next 0 s.Waits∧zmj x0 0 x2 s.Waits s.Waits.length 0 s=some (.inl false)):=by
 obtain ⟨r,h1,h2⟩:=zgg (F:=fun s:Int×Int×Int×(List Wait)×Int×Int×Stake=>(zj7 s.1 s.2.1 s.2.2.1 s.2.2.2.1 s.2.2.2.2.1 s.2.2.2.2.2.1 s.2.2.2.2.2.2).run) s.Waits.length
  (fun i t=>(x0,t,x2,s.Waits,(s.Waits.length:Int),(i:Int),s)) (fun i t=>0≤t∧t≤i*1125899906842624∧(i=0∨1≤zabd s.Waits i))
  (fun i t r=>(zhq s.Next (zabd s.Waits i) (s.Waits.drop i)∧r=.inr (x0,t+zvf (s.Waits.drop i),x2,s))∨(¬ zhq s.Next (zabd s.Waits i) (s.Waits.drop i)∧r=.inl false)) (by
   intro t _
   refine ⟨.inr (x0,t,x2,s),?_,.inl ⟨?_,?_⟩⟩
   ·simp only[zj7];rw[Tr.rf (by simp),Tr.rl]
   ·rw[List.drop_length];trivial
   ·rw[List.drop_length];simp only[zvf,Int.add_zero]) (by
   rintro i t hi ⟨ht0,ht1,ht2⟩
   have hs:=z6 (l:=s.Waits) (k:=i) hi default
   have hn:(i64.wrap ((i:Int) - 1)).toNat=i - 1:=by rw[zg (by omega) (by omega)];omega
   have hN:=zaq2 s.Waits i
   simp only[zj7,z9t,Option.isSome_some,yy2]
   rw[yy4,hn]
   obtain ⟨w,hw⟩:∃ w,w=s.Waits.getD i default:=⟨_,rfl⟩
   rw[← hw] at hs hN ⊢
   have hc:((((((((((decide (w.Number < 1))||(decide (w.Number≥s.Next)))||((decide ((i:Int) > 0))&&(decide ((s.Waits.getD (i - 1) default).Number≥w.Number))))||(decide (w.D < 0)))||(decide (w.D≥4)))||(decide (w.V < 0)))||(decide (w.V≥6)))||(!(decide (0≤w.Amount∧w.Amount≤1125899906842624))))||(decide (w.Height < 0)))||(decide (w.Due < 0))) = !decide (zai5 s.Next (zabd s.Waits i) w):=by
    rw[Bool.eq_iff_iff]
    simp only[Bool.or_eq_true,yy7,Bool.not_eq_true',decide_eq_true_eq,yy8]
    unfold zai5 inA
    by_cases h0:i=0
    ·have hq:zabd s.Waits i=0:=by unfold zabd;rw[if_pos h0]
     rw[hq];constructor<;>intro h<;>omega
    ·have hq:zabd s.Waits i=(s.Waits.getD (i - 1) default).Number:=by unfold zabd;rw[if_neg h0]
     rw[hq] at ht2 ⊢;constructor<;>intro h<;>omega
   rw[Tr.rt (by simpa using hi),Tr.rg ⟨by omega,by rw[z2];omega⟩,Tr.rg (by
    intro h _
    rw[decide_eq_true_eq] at h
    rw[zg (by omega) (by omega),z2]
    exact ⟨by omega,trivial⟩),Tr.rg (by simp),hs]
   by_cases hg:zai5 s.Next (zabd s.Waits i) w
   ·have h7:=hg.2.2.2.2.2.2.1
    have h8:=hg.1
    unfold inA at h7
    refine .inl ⟨t+w.Amount,?_,⟨by omega,by omega,.inr (by rw[hN];unfold zabd at h8 ht2;omega)⟩,?_⟩
    ·rw[Tr.rf (by rw[hc];simpa using hg),Tr.rl,zl (by omega),zg (by omega) (by omega)]
    ·intro r hr
     rw[hN] at hr
     simp only[zhq,zvf]
     rcases hr with ⟨k1,k2⟩ | ⟨k1,k2⟩
     ·exact .inl ⟨⟨hg,k1⟩,by rw[k2,Int.add_assoc]⟩
     ·exact .inr ⟨fun h=>k1 h.2,k2⟩
   ·refine .inr ⟨.inl false,?_,.inr ⟨fun h=>hg h.1,rfl⟩⟩
    rw[Tr.rt (by rw[hc];simpa using hg),Tr.rl]) 0 0 (by omega) ⟨by omega,by omega,.inl rfl⟩
 have h1:zmj x0 0 x2 s.Waits s.Waits.length 0 s=some r:=h1
 rw[h1]
 simp only[List.drop_zero,Int.zero_add] at h2
 rcases h2 with ⟨k1,k2⟩ | ⟨k1,k2⟩
 ·exact .inl ⟨k1,by rw[k2]⟩
 ·exact .inr ⟨k1,by rw[k2]⟩
theorem za0h {s:Stake} (hl:s.Waits.length≤60) (x0 x1:Int) :
  (zhq s.Next 0 s.Waits∧zh2 x0 x1 0 0 s.Waits s.Waits.length 0 s=some (.inr (x0,x1,zvf s.Waits,s)))∨(¬ zhq s.Next 0 s.Waits∧zh2 x0 x1 0 0 s.Waits s.Waits.length 0 s=some (.inl false)):=by
 obtain ⟨r,h1,h2⟩:=zgg (F:=fun s:Int×Int×Int×Int×(List Wait)×Int×Int×Stake=>(zf9 s.1 s.2.1 s.2.2.1 s.2.2.2.1 s.2.2.2.2.1 s.2.2.2.2.2.1 s.2.2.2.2.2.2.1 s.2.2.2.2.2.2.2).run) s.Waits.length
  (fun i (t:Int×Int)=>(x0,x1,t.1,t.2,s.Waits,(s.Waits.length:Int),(i:Int),s)) (fun i t=>0≤t.1∧t.1≤i*1125899906842624)
  (fun i t r=>(zhq s.Next t.2 (s.Waits.drop i)∧r=.inr (x0,x1,t.1+zvf (s.Waits.drop i),s))∨(¬ zhq s.Next t.2 (s.Waits.drop i)∧r=.inl false)) (by
   intro t _
   refine ⟨.inr (x0,x1,t.1,s),?_,.inl ⟨?_,?_⟩⟩
   ·simp only[zf9];rw[Tr.rf (by simp),Tr.rl]
   ·rw[List.drop_length];trivial
   ·rw[List.drop_length];simp only[zvf,Int.add_zero]) (by
   rintro i ⟨t,last⟩ hi ⟨ht0,ht1⟩
   have hs:=z6 (l:=s.Waits) (k:=i) hi default
   simp only at ht0 ht1
   simp only[zf9,zth,Option.isSome_some,yy2]
   rw[yy4]
   obtain ⟨w,hw⟩:∃ w,w=s.Waits.getD i default:=⟨_,rfl⟩
   rw[← hw] at hs ⊢
   have hc:(((((((((decide (w.Number≤last))||(decide (w.Number≥s.Next)))||(decide (w.D < 0)))||(decide (w.D > 3)))||(decide (w.V < 0)))||(decide (w.V > 5)))||(!(decide (0≤w.Amount∧w.Amount≤1125899906842624))))||(decide (w.Height < 0)))||(decide (w.Due < 0))) = !decide (zai5 s.Next last w):=by
    rw[Bool.eq_iff_iff]
    simp only[Bool.or_eq_true,yy7,Bool.not_eq_true',decide_eq_true_eq,yy8]
    unfold zai5 inA
    constructor<;>intro h<;>omega
   rw[Tr.rt (by simpa using hi),Tr.rg ⟨by omega,by rw[z2];omega⟩,Tr.rg (by simp),hs]
   by_cases hg:zai5 s.Next last w
   ·have h7:=hg.2.2.2.2.2.2.1
    unfold inA at h7
    refine .inl ⟨(t+w.Amount,w.Number),?_,⟨by show 0≤t+w.Amount;omega,by show t+w.Amount≤_;omega⟩,?_⟩
    ·rw[Tr.rf (by rw[hc];simpa using hg),Tr.rl,zl (by omega),zg (by omega) (by omega)]
    ·intro r hr
     simp only[zhq,zvf]
     rcases hr with ⟨k1,k2⟩ | ⟨k1,k2⟩
     ·exact .inl ⟨⟨hg,k1⟩,by rw[k2,Int.add_assoc]⟩
     ·exact .inr ⟨fun h=>k1 h.2,k2⟩
   ·refine .inr ⟨.inl false,?_,.inr ⟨fun h=>hg h.1,rfl⟩⟩
    rw[Tr.rt (by rw[hc];simpa using hg),Tr.rl]) 0 (0,0) (by omega) ⟨by simp,by simp⟩
 have h1:zh2 x0 x1 0 0 s.Waits s.Waits.length 0 s=some r:=h1
 rw[h1]
 simp only[List.drop_zero,Int.zero_add] at h2
 rcases h2 with ⟨k1,k2⟩ | ⟨k1,k2⟩
 ·exact .inl ⟨k1,by rw[k2]⟩
 ·exact .inr ⟨k1,by rw[k2]⟩
theorem z25 (s:Stake):zn6 s=some (decide (GoodS s)):=by
 rw[zn6,z16,Tr.rb (zp9 _)]
 by_cases h0:zif s.Bank∧1≤s.Next∧s.Next≤1125899906842624∧s.Waits.length≤60
 ·obtain ⟨b0,b1,b2,b3⟩:=h0
  rw[Tr.rf (by simp[b0];omega)]
  rcases za0e s with ⟨k1,k2⟩ | ⟨k1,k2⟩
  ·refine (Tr.rj k2).trans ?_
   simp only[]
   rcases za0g b3 (sum6 s.Validators.Tokens) (sum6 s.Validators.Lost) with ⟨l1,l2⟩ | ⟨l1,l2⟩
   ·rw[Tr.rj l2,Tr.rl]
    congr 1
    rw[Bool.eq_iff_iff]
    simp only[yy7,beq_iff_eq,decide_eq_true_eq]
    exact ⟨fun h=>⟨b0,⟨b1,b2,b3⟩,k1,l1,h.1.1,h.1.2,h.2⟩,fun h=>⟨⟨h.2.2.2.2.1,h.2.2.2.2.2.1⟩,h.2.2.2.2.2.2⟩⟩
   ·rw[Tr.ri l2,Tr.rl,decide_eq_false (fun h=>l1 h.2.2.2.1)]
  ·refine (Tr.ri k2).trans ?_
   rw[Tr.rl,decide_eq_false (fun h=>k1 h.2.2.1)]
 ·rw[Tr.rt (by
   by_cases b0:zif s.Bank
   ·have h1:¬ (1≤s.Next∧s.Next≤1125899906842624∧s.Waits.length≤60):=fun h=>h0 ⟨b0,h⟩
    simp only[b0,Bool.or_eq_true,Bool.not_eq_true',decide_eq_true_eq,yy8,not_true,false_or]
    omega
   ·simp[b0]),Tr.rl,decide_eq_false (fun h=>h0 ⟨h.1,h.2.1⟩)]
theorem zvc (s:Stake):ziw s=some (decide (GoodS s)):=by
 rw[ziw,zuu,Tr.rb (zad2 _)]
 by_cases h0:zif s.Bank∧1≤s.Next∧s.Next≤1125899906842624∧s.Waits.length≤60
 ·obtain ⟨b0,b1,b2,b3⟩:=h0
  rw[Tr.rf (by simp[b0];omega)]
  rcases za0f s with ⟨k1,k2⟩ | ⟨k1,k2⟩
  ·refine (Tr.rj k2).trans ?_
   simp only[]
   rcases za0h b3 (sum6 s.Validators.Tokens) (sum6 s.Validators.Lost) with ⟨l1,l2⟩ | ⟨l1,l2⟩
   ·rw[Tr.rj l2,Tr.rl]
    congr 1
    rw[Bool.eq_iff_iff]
    simp only[yy7,beq_iff_eq,decide_eq_true_eq]
    exact ⟨fun h=>⟨b0,⟨b1,b2,b3⟩,k1,l1,h.1.1,h.1.2,h.2⟩,fun h=>⟨⟨h.2.2.2.2.1,h.2.2.2.2.2.1⟩,h.2.2.2.2.2.2⟩⟩
   ·rw[Tr.ri l2,Tr.rl,decide_eq_false (fun h=>l1 h.2.2.2.1)]
  ·refine (Tr.ri k2).trans ?_
   rw[Tr.rl,decide_eq_false (fun h=>k1 h.2.2.1)]
 ·rw[Tr.rt (by
   by_cases b0:zif s.Bank
   ·have h1:¬ (1≤s.Next∧s.Next≤1125899906842624∧s.Waits.length≤60):=fun h=>h0 ⟨b0,h⟩
    simp only[b0,Bool.or_eq_true,Bool.not_eq_true',decide_eq_true_eq,yy8,not_true,false_or]
    omega
   ·simp[b0]),Tr.rl,decide_eq_false (fun h=>h0 ⟨h.1,h.2.1⟩)]
def zfr (s:Stake) (d v:Int):Int:=if ¬ GoodS s then 2 else if d < 0∨4≤d∨v < 0∨6≤v then 4 else 0
theorem z3m (s:Stake) (d v:Int):ze8 s d v=some (zfr s d v):=by
 rw[ze8,zzv,Tr.rb (z25 s)]
 unfold zfr
 by_cases h:GoodS s
 ·rw[if_neg (by simpa using h),Tr.rf (by simpa using h)]
  by_cases h2:d < 0∨4≤d∨v < 0∨6≤v
  ·rw[if_pos h2,Tr.rt (by simpa[or_assoc] using h2),Tr.rl]
  ·rw[if_neg h2,Tr.rf (by simp only[Bool.or_eq_false_iff,yy8];omega),Tr.rl]
 ·rw[if_pos h,Tr.rt (by simpa using h),Tr.rl]
theorem zai7 (s:Stake) (d v:Int):zpx s d v=some (zfr s d v):=by
 rw[zpx,z9h,Tr.rb (zvc s)]
 unfold zfr
 by_cases h:GoodS s
 ·rw[if_neg (by simpa using h),Tr.rf (by simpa using h)]
  by_cases h2:d < 0∨4≤d∨v < 0∨6≤v
  ·rw[if_pos h2,Tr.rt (by simp only[Bool.or_eq_true,decide_eq_true_eq];omega),Tr.rl]
  ·rw[if_neg h2,Tr.rf (by simp only[Bool.or_eq_false_iff,yy8];omega),Tr.rl]
 ·rw[if_pos h,Tr.rt (by simpa using h),Tr.rl]
theorem GoodS.at {s:Stake} (h:GoodS s) {v:Int} (hv:0≤v∧v < 6):zabc s v:=by
 have:=h.2.2.1 v.toNat (by omega)
 rwa [show ((v.toNat:Nat):Int)=v by omega] at this
theorem GoodS.shr {s:Stake} (h:GoodS s) {d v:Int} (hd:0≤d∧d < 4) (hv:0≤v∧v < 6):0≤A46.get s.Shares d v∧A46.get s.Shares d v≤1125899906842624:=by
 have:=(h.at hv).2.1 d.toNat (by omega)
 rwa [show ((d.toNat:Nat):Int)=d by omega] at this
theorem zj0 {s:Stake} {d v:Int} (h:zfr s d v=0):GoodS s∧(0≤d∧d < 4)∧(0≤v∧v < 6):=by
 unfold zfr at h
 by_cases hg:GoodS s
 ·rw[if_neg (by simpa using hg)] at h
  by_cases h2:d < 0∨4≤d∨v < 0∨6≤v
  ·rw[if_pos h2] at h;cases h
  ·exact ⟨hg,by omega,by omega⟩
 ·rw[if_pos hg] at h;cases h
def addS (s:Stake) (b:Bank) (d v n k:Int):Stake :=
 ⟨b,{ s.Validators with Tokens:=s.Validators.Tokens.set v (s.Validators.Tokens.get v+n),Shares:=s.Validators.Shares.set v (s.Validators.Shares.get v+k) },A46.set s.Shares d v (A46.get s.Shares d v+k),s.Waits,s.Next⟩
def zc9 (s:Stake) (v n:Int):Int×Int:=if s.Validators.Shares.get v=0 then (n,0) else zko n (s.Validators.Shares.get v) (s.Validators.Tokens.get v)
def zfo (s:Stake) (d v n:Int):Stake×Int :=
 if zfr s d v≠0 then (s,zfr s d v) else if s.Validators.Dead.get v=true then (s,15) else if n < 1∨1125899906842624 < n then (s,2)
 else if s.Validators.Shares.get v≠0∧s.Validators.Tokens.get v=0 then (s,8) else if (zc9 s v n).2≠0∨1125899906842624 < s.Validators.Shares.get v+(zc9 s v n).1 then (s,6)
 else if (zc9 s v n).1 < 1 then (s,8) else if (zti s.Bank d n).2≠0 then (s,(zti s.Bank d n).2) else (addS s (zti s.Bank d n).1 d v n (zc9 s v n).1,0)
theorem z3n (a b c:Int):0≤(zko a b c).1∧(zko a b c).1≤1125899906842624:=by
 unfold zko
 by_cases h:a < 0∨b < 0∨c < 1
 ·rw[if_pos h];simp
 ·rw[if_neg h]
  by_cases h2:1125899906842624 < a*b / c
  ·rw[if_pos h2];simp
  ·rw[if_neg h2]
   have h3:0≤a*b:=Int.mul_nonneg (by omega) (by omega)
   exact ⟨Int.ediv_nonneg h3 (by omega),by show a*b / c≤_;omega⟩
theorem zanc {s:Stake} {d v n:Int} (hn:n≤9223372036854775807):zpl s d v n=some (zfo s d v n):=by
 rw[zpl,zr0,Tr.rb (z3m _ _ _)]
 unfold zfo
 by_cases h0:zfr s d v=0
 ·obtain ⟨hg,hd,hv⟩:=zj0 h0
  obtain ⟨⟨hT,hS,hL,h4,h5⟩,_,_⟩:=hg.at hv
  have hsh:=hg.shr hd hv
  rw[if_neg (by simpa using h0),Tr.rf (by simpa using h0),Tr.rg hv]
  by_cases h1:s.Validators.Dead.get v=true
  ·rw[if_pos h1,Tr.rt h1,Tr.rl]
  ·rw[if_neg h1,Tr.rf (by simpa using h1)]
   by_cases h2:n < 1∨1125899906842624 < n
   ·rw[if_pos h2,Tr.rt (by simpa using h2),Tr.rl]
   ·rw[if_neg h2,Tr.rf (by simp only[Bool.or_eq_false_iff,yy8];omega)]
    by_cases h3:s.Validators.Shares.get v=0
    ·have e:zc9 s v n=(n,0):=by unfold zc9;rw[if_pos h3]
     rw[e,if_neg (by simp[h3]),if_neg (by simp;omega),if_neg (by show ¬ n < 1;omega),Tr.rf (by simp[h3]),Tr.rf (by simp;omega),Tr.rb zat3]
     by_cases h6:(zti s.Bank d n).2=0
     ·rw[if_neg (by simpa using h6),Tr.rf (by simpa using h6),Tr.rg hd,Tr.rg hv,Tr.rg hd,Tr.rg hv,Tr.rl,zg (x:=s.Validators.Tokens.get v+n) (by omega) (by omega),zg (x:=s.Validators.Shares.get v+n) (by omega) (by omega),zg (x:=A46.get s.Shares d v+n) (by omega) (by omega)]
      rfl
     ·rw[if_pos h6,Tr.rt (by simpa using h6),Tr.rl]
    ·have e:zc9 s v n=zko n (s.Validators.Shares.get v) (s.Validators.Tokens.get v):=by unfold zc9;rw[if_neg h3]
     have hm:=z3n n (s.Validators.Shares.get v) (s.Validators.Tokens.get v)
     rw[e,Tr.rt (by simp;omega)]
     by_cases h7:s.Validators.Tokens.get v=0
     ·rw[if_pos ⟨h3,h7⟩,Tr.rt (by simpa using h7),Tr.rl]
     ·rw[if_neg (by simp[h7]),Tr.rf (by simpa using h7)]
      simp only[zad1 (a:=n) (b:=s.Validators.Shares.get v) (c:=s.Validators.Tokens.get v) (by omega) (by omega) (by omega),Option.isSome_some,yy2]
      rw[Tr.rg (by trivial),zg (x:=1125899906842624 - _) (by omega) (by omega)]
      obtain ⟨k,hk⟩:∃ k,k=zko n (s.Validators.Shares.get v) (s.Validators.Tokens.get v):=⟨_,rfl⟩
      rw[← hk] at hm ⊢
      by_cases h8:k.2≠0∨1125899906842624 < s.Validators.Shares.get v+k.1
      ·rw[if_pos h8,Tr.rt (by simp only[Bool.or_eq_true,decide_eq_true_eq,bne_iff_ne];omega),Tr.rl]
      ·rw[if_neg h8,Tr.rf (by simp only[Bool.or_eq_false_iff,yy8,bne_eq_false_iff_eq];omega)]
       by_cases h9:k.1 < 1
       ·rw[if_pos h9,Tr.rt (by rw[beq_iff_eq];omega),Tr.rl]
       ·rw[if_neg h9,Tr.rf (by rw[beq_eq_false_iff_ne];omega),Tr.rb zat3]
        by_cases h6:(zti s.Bank d n).2=0
        ·rw[if_neg (by simpa using h6),Tr.rf (by simpa using h6),Tr.rg hd,Tr.rg hv,Tr.rg hd,Tr.rg hv,Tr.rl,zg (x:=s.Validators.Tokens.get v+n) (by omega) (by omega),zg (x:=s.Validators.Shares.get v+k.1) (by omega) (by omega),zg (x:=A46.get s.Shares d v+k.1) (by omega) (by omega)]
         rfl
        ·rw[if_pos h6,Tr.rt (by simpa using h6),Tr.rl]
 ·rw[if_pos h0,Tr.rt (by simpa using h0),Tr.rl]
theorem zabu {s:Stake} (h:s.Waits.length*64≤140737488351232):zf1 s=some s:=by
 rw[zf1,zus,Tr.rg (by rw[z2];omega),Tr.rl]
theorem zyp {s:Stake} (h:s.Waits.length*64≤140737488351232):zc4 s=some s:=by
 rw[zc4,zpw,Tr.rg (by rw[z2];omega),Tr.rl]
theorem GoodS.fit {s:Stake} (h:GoodS s):s.Waits.length*64≤140737488351232:=by have:=h.2.1.2.2;omega
theorem zafn {s:Stake} {d v n:Int} (hn:n≤9223372036854775807):zuv s d v n=some (zfo s d v n):=by
 rw[zuv,zxj,Tr.rb (zai7 _ _ _)]
 unfold zfo
 by_cases h0:zfr s d v=0
 ·obtain ⟨hg,hd,hv⟩:=zj0 h0
  obtain ⟨⟨hT,hS,hL,h4,h5⟩,_,_⟩:=hg.at hv
  have hsh:=hg.shr hd hv
  rw[if_neg (by simpa using h0),Tr.rf (by simpa using h0),Tr.rg hv]
  by_cases h1:s.Validators.Dead.get v=true
  ·rw[if_pos h1,Tr.rt h1,Tr.rl]
  ·rw[if_neg h1,Tr.rf (by simpa using h1)]
   by_cases h2:n < 1∨1125899906842624 < n
   ·rw[if_pos h2,Tr.rt (by simpa using h2),Tr.rl]
   ·rw[if_neg h2,Tr.rf (by simp only[Bool.or_eq_false_iff,yy8];omega)]
    by_cases h3:s.Validators.Shares.get v=0
    ·have e:zc9 s v n=(n,0):=by unfold zc9;rw[if_pos h3]
     rw[e,if_neg (by simp[h3]),if_neg (by simp;omega),if_neg (by show ¬ n < 1;omega),Tr.rf (by simp[h3]),Tr.rf (by simp;omega),Tr.rb zagt]
     by_cases h6:(zti s.Bank d n).2=0
     ·rw[if_neg (by simpa using h6),Tr.rf (by simpa using h6),Tr.rb (zabu hg.fit)]
      iterate 4 rw[Tr.rg hv]
      rw[Tr.rg hd,Tr.rg hv,Tr.rg hd,Tr.rg hv,Tr.rl,zg (x:=s.Validators.Tokens.get v+n) (by omega) (by omega),zg (x:=s.Validators.Shares.get v+n) (by omega) (by omega),zg (x:=A46.get s.Shares d v+n) (by omega) (by omega)]
      rfl
     ·rw[if_pos h6,Tr.rt (by simpa using h6),Tr.rl]
    ·have e:zc9 s v n=zko n (s.Validators.Shares.get v) (s.Validators.Tokens.get v):=by unfold zc9;rw[if_neg h3]
     have hm:=z3n n (s.Validators.Shares.get v) (s.Validators.Tokens.get v)
     rw[e,Tr.rt (by simpa using h3)]
     by_cases h7:s.Validators.Tokens.get v=0
     ·rw[if_pos ⟨h3,h7⟩,Tr.rt (by simpa using h7),Tr.rl]
     ·rw[if_neg (by simp[h7]),Tr.rf (by simpa using h7),Tr.rb (zaat (a:=n) (b:=s.Validators.Shares.get v) (c:=s.Validators.Tokens.get v) (by omega) (by omega) (by omega))]
      obtain ⟨k,hk⟩:∃ k,k=zko n (s.Validators.Shares.get v) (s.Validators.Tokens.get v):=⟨_,rfl⟩
      rw[← hk] at hm ⊢
      rw[zg (x:=s.Validators.Shares.get v+k.1) (by omega) (by omega)]
      by_cases h8:k.2≠0∨1125899906842624 < s.Validators.Shares.get v+k.1
      ·rw[if_pos h8,Tr.rt (by simpa using h8),Tr.rl]
      ·rw[if_neg h8,Tr.rf (by simp only[Bool.or_eq_false_iff,yy8,bne_eq_false_iff_eq];omega)]
       by_cases h9:k.1 < 1
       ·rw[if_pos h9,Tr.rt (by simpa using h9),Tr.rl]
       ·rw[if_neg h9,Tr.rf (by simpa using h9),Tr.rb zagt]
        by_cases h6:(zti s.Bank d n).2=0
        ·rw[if_neg (by simpa using h6),Tr.rf (by simpa using h6),Tr.rb (zabu hg.fit)]
         iterate 4 rw[Tr.rg hv]
         rw[Tr.rg hd,Tr.rg hv,Tr.rg hd,Tr.rg hv,Tr.rl,zg (x:=s.Validators.Tokens.get v+n) (by omega) (by omega),zg (x:=s.Validators.Shares.get v+k.1) (by omega) (by omega),zg (x:=A46.get s.Shares d v+k.1) (by omega) (by omega)]
         rfl
        ·rw[if_pos h6,Tr.rt (by simpa using h6),Tr.rl]
 ·rw[if_pos h0,Tr.rt (by simpa using h0),Tr.rl]
def outW (s:Stake) (d v n:Int) (w:Wait):Wait:={ w with Number:=s.Next,D:=d,V:=v,Amount:=n }
def subS (s:Stake) (b:Bank) (d v n k:Int) (w:Wait):Stake :=
 ⟨b,{ s.Validators with Tokens:=s.Validators.Tokens.set v (s.Validators.Tokens.get v - n),Shares:=s.Validators.Shares.set v (s.Validators.Shares.get v - k) },A46.set s.Shares d v (A46.get s.Shares d v - k),s.Waits++[outW s d v n w],s.Next+1⟩
def zig (s:Stake) (v k:Int):Int:=(zko k (s.Validators.Tokens.get v) (s.Validators.Shares.get v)).1
def zb0 (s:Stake) (d v k:Int) (w:Wait):Stake×Int :=
 if zfr s d v≠0 then (s,zfr s d v) else if k < 1∨1125899906842624 < k∨w.Height < 0∨w.Due < 0 then (s,2) else if A46.get s.Shares d v < k then (s,7)
 else if 60≤s.Waits.length∨1125899906842624≤s.Next then (s,6) else if zig s v k < 1 then (s,8) else if (zct s.Bank 4 5 (zig s v k)).2≠0 then (s,(zct s.Bank 4 5 (zig s v k)).2)
 else (subS s (zct s.Bank 4 5 (zig s v k)).1 d v (zig s v k) k w,0)
theorem zak9 {s:Stake} {v k:Int} (h1:1≤k) (hT:inA (s.Validators.Tokens.get v)) (h:k=s.Validators.Shares.get v):zig s v k=s.Validators.Tokens.get v:=by
 unfold zig zko
 rw[← h,if_neg (by omega),Int.mul_ediv_cancel_left _ (by omega),if_neg (by omega)]
theorem z8b {l:List Wait} (h:l.length*64≤140737488351232):zz l=some l:=by
 rw[zz,zhv]
 refine Tr.run_split (fun h0=>?_) (fun _=>?_) (.inr trivial)
 ·rw[Tr.rl,List.length_eq_zero_iff.1 h0]
 ·rw[Tr.rg (by simp only[z2,List.length_nil];omega),Tr.rl]
theorem z8c {s:Stake} (h:GoodS s) {d v:Int} (hd:0≤d∧d < 4) (hv:0≤v∧v < 6):A46.get s.Shares d v≤s.Validators.Shares.get v:=by
 have h0:=h.shr (d:=0) (by omega) hv
 have h1:=h.shr (d:=1) (by omega) hv
 have h2:=h.shr (d:=2) (by omega) hv
 have h3:=h.shr (d:=3) (by omega) hv
 rw[← (h.at hv).2.2]
 unfold zad3 shr
 obtain rfl | rfl | rfl | rfl:d=0∨d=1∨d=2∨d=3:=by omega
 all_goals omega
theorem zai8 {s:Stake} {d v k:Int} {w:Wait} (hk:k≤9223372036854775807):zmv s d v k w=some (zb0 s d v k w):=by
 rw[zmv,zn7,Tr.rb (z3m _ _ _)]
 unfold zb0
 by_cases h0:zfr s d v=0
 ·obtain ⟨hg,hd,hv⟩:=zj0 h0
  obtain ⟨⟨hT,hS,hL,h4,h5⟩,_,_⟩:=hg.at hv
  have hsh:=hg.shr hd hv
  have hle:=z8c hg hd hv
  have hN:=hg.2.1
  rw[if_neg (by simpa using h0),Tr.rf (by simpa using h0)]
  by_cases h1:k < 1∨1125899906842624 < k∨w.Height < 0∨w.Due < 0
  ·rw[if_pos h1,Tr.rt (by simpa[or_assoc] using h1),Tr.rl]
  ·rw[if_neg h1,Tr.rf (by simp only[Bool.or_eq_false_iff,yy8];omega),Tr.rg hd,Tr.rg hv]
   by_cases h2:A46.get s.Shares d v < k
   ·rw[if_pos h2,Tr.rt (by simpa using h2),Tr.rl]
   ·rw[if_neg h2,Tr.rf (by simpa using h2)]
    by_cases h3:60≤s.Waits.length∨1125899906842624≤s.Next
    ·rw[if_pos h3,Tr.rt (by simp only[Bool.or_eq_true,decide_eq_true_eq];omega),Tr.rl]
    ·rw[if_neg h3,Tr.rf (by simp only[Bool.or_eq_false_iff,yy8];omega),Tr.rg hv]
     have hm:=z3n k (s.Validators.Tokens.get v) (s.Validators.Shares.get v)
     have hlen:s.Waits.length*64≤140737488351232:=by omega
     simp only[zad1 (a:=k) (b:=s.Validators.Tokens.get v) (c:=s.Validators.Shares.get v) (by omega) (by omega) (by omega),z8b hlen,Option.isSome_some,yy2]
     rw[Tr.rg (by trivial)]
     change 0≤zig s v k∧zig s v k≤1125899906842624 at hm
     have ef:∀ n:Int,(⟨s.Next,d,v,n,w.Height,w.Due,w.h0,w.h1⟩:Wait)=outW s d v n w:=fun _=>rfl
     by_cases h6:k=s.Validators.Shares.get v
     ·have ew:=zak9 (by omega) hT h6
      rw[Tr.rt (by simpa using h6),ew]
      by_cases h7:s.Validators.Tokens.get v < 1
      ·rw[if_pos h7,Tr.rt (by rw[beq_iff_eq];omega),Tr.rl]
      ·rw[if_neg h7,Tr.rf (by rw[beq_eq_false_iff_ne];omega),Tr.rb zak7]
       by_cases h8:(zct s.Bank 4 5 (s.Validators.Tokens.get v)).2=0
       ·rw[if_neg (by simpa using h8),Tr.rf (by simpa using h8),Tr.rg hd,Tr.rg hv,Tr.rg hd,Tr.rg hv,Tr.rg (by trivial),Tr.rg (by simp only[z2,yy5];omega),Tr.rl,
         zg (x:=s.Validators.Tokens.get v - _) (by omega) (by omega),zg (x:=s.Validators.Shares.get v - k) (by omega) (by omega),zg (x:=A46.get s.Shares d v - k) (by omega) (by omega),zg (x:=s.Next+1) (by omega) (by omega)]
        rfl
       ·rw[if_pos h8,Tr.rt (by simpa using h8),Tr.rl]
     ·rw[Tr.rf (by simpa using h6)]
      change Tr.run (.ite (zig s v k==0) _ (.bind (zl0 s.Bank (zig s v k)) _))=_
      by_cases h7:zig s v k < 1
      ·rw[if_pos h7,Tr.rt (by rw[beq_iff_eq];omega),Tr.rl]
      ·rw[if_neg h7,Tr.rf (by rw[beq_eq_false_iff_ne];omega),Tr.rb zak7]
       change _=some (if (zct s.Bank 4 5 (zig s v k)).2≠0 then (s,(zct s.Bank 4 5 (zig s v k)).2) else (subS s (zct s.Bank 4 5 (zig s v k)).1 d v (zig s v k) k w,0))
       by_cases h8:(zct s.Bank 4 5 (zig s v k)).2=0
       ·rw[if_neg (by simpa using h8),Tr.rf (by simpa using h8),Tr.rg hd,Tr.rg hv,Tr.rg hd,Tr.rg hv,Tr.rg (by trivial),Tr.rg (by simp only[z2,yy5];omega),Tr.rl,
         zg (x:=s.Validators.Tokens.get v - _) (by unfold zig at hm;omega) (by unfold zig at hm;omega),zg (x:=s.Validators.Shares.get v - k) (by omega) (by omega),zg (x:=A46.get s.Shares d v - k) (by omega) (by omega),zg (x:=s.Next+1) (by omega) (by omega)]
        rfl
       ·rw[if_pos h8,Tr.rt (by simpa using h8),Tr.rl]
 ·rw[if_pos h0,Tr.rt (by simpa using h0),Tr.rl]
theorem zabe {s:Stake} {d v k:Int} {w:Wait} (hk:k≤9223372036854775807):zpy s d v k w=some (zb0 s d v k w):=by
 rw[zpy,zr9,Tr.rb (zai7 _ _ _)]
 unfold zb0
 by_cases h0:zfr s d v=0
 ·obtain ⟨hg,hd,hv⟩:=zj0 h0
  obtain ⟨⟨hT,hS,hL,h4,h5⟩,_,_⟩:=hg.at hv
  have hsh:=hg.shr hd hv
  have hle:=z8c hg hd hv
  have hN:=hg.2.1
  rw[if_neg (by simpa using h0),Tr.rf (by simpa using h0)]
  by_cases h1:k < 1∨1125899906842624 < k∨w.Height < 0∨w.Due < 0
  ·rw[if_pos h1,Tr.rt (by simpa[or_assoc] using h1),Tr.rl]
  ·rw[if_neg h1,Tr.rf (by simp only[Bool.or_eq_false_iff,yy8];omega),Tr.rg hd,Tr.rg hv]
   by_cases h2:A46.get s.Shares d v < k
   ·rw[if_pos h2,Tr.rt (by simpa using h2),Tr.rl]
   ·rw[if_neg h2,Tr.rf (by simpa using h2)]
    by_cases h3:60≤s.Waits.length∨1125899906842624≤s.Next
    ·rw[if_pos h3,Tr.rt (by simp only[Bool.or_eq_true,beq_iff_eq];omega),Tr.rl]
    ·rw[if_neg h3,Tr.rf (by simp only[Bool.or_eq_false_iff,beq_eq_false_iff_ne];omega),Tr.rg hv]
     have hm:=z3n k (s.Validators.Tokens.get v) (s.Validators.Shares.get v)
     have hlen:s.Waits.length*64≤140737488351232:=by omega
     rw[Tr.rb (zaat (a:=k) (b:=s.Validators.Tokens.get v) (c:=s.Validators.Shares.get v) (by omega) (by omega) (by omega))]
     change 0≤zig s v k∧zig s v k≤1125899906842624 at hm
     change Tr.run (.ite (decide (zig s v k < 1)) _ (.bind (zta s.Bank (zig s v k)) _))=_
     by_cases h7:zig s v k < 1
     ·rw[if_pos h7,Tr.rt (by simpa using h7),Tr.rl]
     ·rw[if_neg h7,Tr.rf (by simpa using h7),Tr.rb zak8]
      by_cases h8:(zct s.Bank 4 5 (zig s v k)).2=0
      ·rw[if_neg (by simpa using h8),Tr.rf (by simpa using h8),Tr.rb (zyp hlen)]
       iterate 4 rw[Tr.rg hv]
       rw[Tr.rg hd,Tr.rg hv,Tr.rg hd,Tr.rg hv,Tr.rg (by simp only[z2,yy5];omega),Tr.rl,
        zg (x:=s.Validators.Tokens.get v - _) (by unfold zig at hm;omega) (by unfold zig at hm;omega),zg (x:=s.Validators.Shares.get v - k) (by omega) (by omega),zg (x:=A46.get s.Shares d v - k) (by omega) (by omega),zg (x:=s.Next+1) (by omega) (by omega)]
       rfl
      ·rw[if_pos h8,Tr.rt (by simpa using h8),Tr.rl]
 ·rw[if_pos h0,Tr.rt (by simpa using h0),Tr.rl]
def z9u (s:Stake) (v:Int) (j d:Bool):Stake:={ s with Validators:={ s.Validators with Jailed:=s.Validators.Jailed.set v j,Dead:=s.Validators.Dead.set v d } }
def zda (s:Stake) (v what:Int):Stake×Int :=
 if zfr s 0 v≠0 then (s,zfr s 0 v) else if what=0∧s.Validators.Jailed.get v=true then (s,14) else if 0 < what∧s.Validators.Dead.get v=true then (s,15)
 else if what=1∧s.Validators.Jailed.get v=false then (s,4) else (z9u s v (what != 1) (what==2),0)
theorem zad4 {α:Type} {a:A6 α} {v:Int} {x:α} (hv:0≤v∧v < 6) (h:a.get v=x):a.set v x=a:=by
 subst h
 obtain rfl | rfl | rfl | rfl | rfl | rfl:v=0∨v=1∨v=2∨v=3∨v=4∨v=5:=by omega
 all_goals rfl
theorem zabv {s:Stake} {v what:Int}:zga s v what=some (zda s v what):=by
 rw[zga,z53,Tr.rb (zai7 _ _ _)]
 unfold zda
 by_cases h0:zfr s 0 v=0
 ·obtain ⟨hg,hd,hv⟩:=zj0 h0
  rw[if_neg (by simpa using h0),Tr.rf (by simpa using h0),Tr.rg hv,Tr.rb (zabu hg.fit)]
  by_cases h1:what=0∧s.Validators.Jailed.get v=true
  ·rw[if_pos h1,Tr.rt (by simpa using h1),Tr.rl]
  ·rw[if_neg h1,Tr.rf (by rw[Bool.eq_false_iff];intro k;apply h1;simpa using k)]
   by_cases h2:0 < what∧s.Validators.Dead.get v=true
   ·rw[if_pos h2,Tr.rt (by simpa using h2),Tr.rl]
   ·rw[if_neg h2,Tr.rf (by rw[Bool.eq_false_iff];intro k;apply h2;simpa using k)]
    by_cases h3:what=1∧s.Validators.Jailed.get v=false
    ·rw[if_pos h3,Tr.rt (by simpa using h3),Tr.rl]
    ·rw[if_neg h3,Tr.rf (by rw[Bool.eq_false_iff];intro k;apply h3;simpa using k),Tr.rg hv,Tr.rg hv,Tr.rl]
     rfl
 ·rw[if_pos h0,Tr.rt (by simpa using h0),Tr.rl]
theorem zand {s:Stake} (h:GoodS s) {v:Int} (hv:0≤v∧v < 6) (hj:s.Validators.Jailed.get v=false):s.Validators.Dead.get v=false:=by
 have:=(h.at hv).1.2.2.2.2
 cases hd:s.Validators.Dead.get v
 ·rfl
 ·exact absurd ⟨hd,hj⟩ this
theorem zaua {s:Stake} {v:Int}:zn8 s v=some (zda s v 0):=by
 rw[zn8,z17,Tr.rb (z3m _ _ _)]
 unfold zda
 by_cases h0:zfr s 0 v=0
 ·obtain ⟨hg,hd,hv⟩:=zj0 h0
  rw[if_neg (by simpa using h0),Tr.rf (by simpa using h0),Tr.rg hv]
  by_cases h1:s.Validators.Jailed.get v=true
  ·rw[if_pos ⟨rfl,h1⟩,Tr.rt h1,Tr.rl]
  ·have e:s.Validators.Dead.set v false=s.Validators.Dead:=zad4 hv (zand hg hv (by simpa using h1))
   rw[if_neg (fun h=>h1 h.2),Tr.rf (by simpa using h1),Tr.rg hv,Tr.rl,if_neg (by simp),if_neg (by simp)]
   unfold z9u
   show _=some (({ s with Validators:={ s.Validators with Jailed:=s.Validators.Jailed.set v true,Dead:=s.Validators.Dead.set v false } }:Stake),(0:Int))
   rw[e]
 ·rw[if_pos h0,Tr.rt (by simpa using h0),Tr.rl]
theorem zaub {s:Stake} {v:Int}:zt9 s v=some (zda s v 1):=by
 rw[zt9,zxa,Tr.rb (z3m _ _ _)]
 unfold zda
 by_cases h0:zfr s 0 v=0
 ·obtain ⟨hg,hd,hv⟩:=zj0 h0
  rw[if_neg (by simpa using h0),Tr.rf (by simpa using h0),Tr.rg hv,if_neg (by simp)]
  by_cases h1:s.Validators.Dead.get v=true
  ·rw[if_pos ⟨by omega,h1⟩,Tr.rt h1,Tr.rl]
  ·have e:s.Validators.Dead.set v false=s.Validators.Dead:=zad4 hv (by simpa using h1)
   rw[if_neg (fun h=>h1 h.2),Tr.rf (by simpa using h1)]
   by_cases h2:s.Validators.Jailed.get v=false
   ·rw[if_pos ⟨rfl,h2⟩,Tr.rt (by simpa using h2),Tr.rl]
   ·rw[if_neg (fun h=>h2 h.2),Tr.rf (by simpa using h2),Tr.rl]
    unfold z9u
    show _=some (({ s with Validators:={ s.Validators with Jailed:=s.Validators.Jailed.set v false,Dead:=s.Validators.Dead.set v false } }:Stake),(0:Int))
    rw[e]
 ·rw[if_pos h0,Tr.rt (by simpa using h0),Tr.rl]
theorem zane {s:Stake} {v:Int}:zn9 s v=some (zda s v 2):=by
 rw[zn9,z18,Tr.rb (z3m _ _ _)]
 unfold zda
 by_cases h0:zfr s 0 v=0
 ·obtain ⟨hg,hd,hv⟩:=zj0 h0
  rw[if_neg (by simpa using h0),Tr.rf (by simpa using h0),Tr.rg hv,if_neg (by simp)]
  by_cases h1:s.Validators.Dead.get v=true
  ·rw[if_pos ⟨by omega,h1⟩,Tr.rt h1,Tr.rl]
  ·rw[if_neg (fun h=>h1 h.2),Tr.rf (by simpa using h1),Tr.rg hv,Tr.rg hv,if_neg (by simp),Tr.rl]
   rfl
 ·rw[if_pos h0,Tr.rt (by simpa using h0),Tr.rl]
