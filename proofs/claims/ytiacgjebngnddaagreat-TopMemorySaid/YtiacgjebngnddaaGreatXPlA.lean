/-
  The plain lemmas.
-/
import Derived.Test.YtiacgjebngnddaaGreatXAbC
import Derived.Test.YtiacgjebngnddaaGreatXAbPlain
import Derived.Test.YtiacgjebngnddaaGreatXAbSort2
import Derived.Sort.LotA
import Derived.Test.YtiacgjebngnddaaGreatXFBank
import Derived.Test.YtiacgjebngnddaaGreatXFCodec
import Derived.Test.YtiacgjebngnddaaGreatXFCons
import Derived.Test.YtiacgjebngnddaaGreatXFLine
import Derived.Test.YtiacgjebngnddaaGreatXFRatio
import Derived.Test.YtiacgjebngnddaaGreatXFStakeA
import Derived.Test.YtiacgjebngnddaaGreatXFStakeB
namespace Go.Proofs.YtiacgjebngnddaaGreat.Ab
open Go Go.RowKit
open Go.IntKind (i64 u64)
set_option linter.unusedSimpArgs false
set_option linter.unusedVariables false
theorem zhj {σ ρ τ:Type} {F:σ→Option (σ⊕ρ)} (n:Nat) (mk:Nat→τ→σ) (I:Nat→τ→Prop) (R:Nat→τ→ρ→Prop)
  (hend:∀ t,I n t→∃ r,F (mk n t)=some (.inr r)∧R n t r)
  (hstep:∀ i t,i < n→I i t→(∃ t',F (mk i t)=some (.inl (mk (i+1) t'))∧I (i+1) t'∧∀ r,R (i+1) t' r→R i t r)∨∃ r,F (mk i t)=some (.inr r)∧R i t r) :
  ∀ i t,i≤n→I i t→∃ r,zcv F (mk i t)=some r∧R i t r:=by
 have key:∀ k i t,n - i < k→i≤n→I i t→∃ r,zcv F (mk i t)=some r∧R i t r:=by
  intro k
  induction k with
  | zero=>intro i t h;omega
  | succ k ih =>
   intro i t hk hi hI
   rw[zr3]
   by_cases h:i < n
   ·rcases hstep i t h hI with ⟨t',h1,h2,h3⟩ | ⟨r,h1,h2⟩
    ·rw[h1]
     obtain ⟨r,k1,k2⟩:=ih (i+1) t' (by omega) (by omega) h2
     exact ⟨r,k1,h3 r k2⟩
    ·rw[h1];exact ⟨r,rfl,h2⟩
   ·obtain rfl:i=n:=by omega
    obtain ⟨r,h1,h2⟩:=hend t hI
    rw[h1];exact ⟨r,rfl,h2⟩
 exact fun i t=>key _ i t (Nat.lt_succ_self _)
theorem zlq {σ ρ τ:Type} {F:σ→Option (σ⊕ρ)} (n:Nat) (mk:Nat→τ→σ) (I:Nat→τ→Prop) (g:Nat→τ→ρ)
  (hend:∀ t,I n t→F (mk n t)=some (.inr (g n t)))
  (hstep:∀ i t,i < n→I i t→(∃ t',F (mk i t)=some (.inl (mk (i+1) t'))∧I (i+1) t'∧g (i+1) t'=g i t)∨F (mk i t)=some (.inr (g i t))) :
  ∀ i t,i≤n→I i t→zcv F (mk i t)=some (g i t):=by
 intro i t hi hI
 obtain ⟨r,h1,h2⟩:=zhj n mk I (fun i t r=>r=g i t) (fun t h=>⟨_,hend t h,rfl⟩)
  (fun i t h hI=>(hstep i t h hI).imp (fun ⟨t',h1,h2,h3⟩=>⟨t',h1,h2,fun r hr=>hr.trans h3⟩) (fun h=>⟨_,h,rfl⟩)) i t hi hI
 rw[h1,h2]
theorem zyu {σ α β γ:Type} {F:σ→Option (σ⊕(β⊕γ))} (l:List α) (d:α) (mk:Nat→σ) (p:α→Bool) (bad:β) (out:γ)
  (hend:F (mk l.length)=some (.inr (.inr out))) (hok:∀ i,i < l.length→p (l.getD i d)=true→F (mk i)=some (.inl (mk (i+1))))
  (hbad:∀ i,i < l.length→p (l.getD i d)=false→F (mk i)=some (.inr (.inl bad))):zcv F (mk 0)=some (if l.all p=true then .inr out else .inl bad):=by
 have:=zlq (F:=F) l.length (fun i (_:Unit)=>mk i) (fun _ _=>True) (fun i _=>if (l.drop i).all p=true then .inr out else .inl bad) (by
   intro t _
   rw[hend,List.drop_length];rfl) (by
   intro i t hi _
   have hs:l.drop i=l.getD i d::l.drop (i+1):=by
    rw[List.drop_eq_getElem_cons hi,yy0,yy3 hi];rfl
   cases hp:p (l.getD i d) with
   | true=>exact .inl ⟨(),hok i hi hp,trivial,by rw[hs,List.all_cons,hp,Bool.true_and]⟩
   | false=>exact .inr (by rw[hbad i hi hp,hs,List.all_cons,hp,Bool.false_and];rfl)) 0 () (Nat.zero_le _) trivial
 rwa [List.drop_zero] at this
theorem zkp {σ ρ τ α:Type} {F:σ→Option (σ⊕ρ)} (l:List α) (d:α) (mk:Nat→τ→σ) (I:Nat→τ→Prop) (g:τ→α→τ) (out:τ→ρ)
  (hend:∀ t,I l.length t→F (mk l.length t)=some (.inr (out t)))
  (hstep:∀ i t,i < l.length→I i t→F (mk i t)=some (.inl (mk (i+1) (g t (l.getD i d))))∧I (i+1) (g t (l.getD i d))) (t:τ) (h0:I 0 t) :
  zcv F (mk 0 t)=some (out (l.foldl g t)):=by
 have:=zlq (F:=F) l.length mk I (fun i t=>out ((l.drop i).foldl g t)) (by
   intro t ht
   rw[hend t ht,List.drop_length];rfl) (by
   intro i t hi ht
   have hs:l.drop i=l.getD i d::l.drop (i+1):=by
    rw[List.drop_eq_getElem_cons hi,yy0,yy3 hi];rfl
   obtain ⟨h1,h2⟩:=hstep i t hi ht
   exact .inl ⟨_,h1,h2,by rw[hs,List.foldl_cons]⟩) 0 t (Nat.zero_le _) h0
 rwa [List.drop_zero] at this
theorem zdw {σ ρ:Type} {F:σ→Option (σ⊕ρ)} {s s':σ} (h:F s=some (.inl s')):zcv F s=zcv F s':=by rw[zr3,h]
theorem zga {σ ρ:Type} {F:σ→Option (σ⊕ρ)} {s:σ} {r:ρ} (h:F s=some (.inr r)):zcv F s=some r:=by rw[zr3,h]
theorem zq {i:Nat} (h:i+1≤9223372036854775807):i64.wrap ((i:Int)+1)=((i+1:Nat):Int):=by
 rw[zm (by omega) (by omega)];omega
theorem zar (l:List Power):Sl.len (.powers l)=l.length:=rfl
theorem zhk (l:List Int):Sl.len (.ints l)=l.length:=rfl
theorem zeo (l:List Packet):Sl.len (.packets l)=l.length:=rfl
theorem zjs (l:List Ripe):Sl.len (.ripes l)=l.length:=rfl
theorem z9b (l:List UInt8):Sl.len (.bytes l)=l.length:=rfl
theorem zbj {α:Type} {l:List α} {k:Nat} (h:k < l.length) (d:α):l.drop k=l.getD k d::l.drop (k+1):=by
 rw[List.drop_eq_getElem_cons h,yy0,yy3 h];rfl
theorem zgv {α:Type} {l:List α} {k:Nat} (h:k < l.length) (d:α):l.getD k d∈l:=by
 rw[yy0,yy3 h];exact List.getElem_mem h
def zd7:List Power→Int→Int
 | [],_=>0
 | p::l,v=>if p.V=v then p.N else zd7 l v
def z9c (d:List Power) (v n:Int):Int:=d.foldl (fun n p=>if p.V=v then p.N else n) n
def zyv (v n:Int):List Power:=if 0 < n then [⟨v,n⟩] else []
def zku (f:Nat→Int):List Power:=(List.range 6).foldl (fun t (v:Nat)=>t++zyv (v:Int) (f v)) []
def zyw (a d:List Power):List Power:=zku (fun v=>z9c d v (zd7 a v))
theorem z7c (v n:Int):(zyv v n).length≤1:=by unfold zyv;split<;>simp
theorem z2y (f:Nat→Int):(zku f).length≤6:=by
 have h:∀ (l:List Nat) (t:List Power),(l.foldl (fun t (v:Nat)=>t++zyv v (f v)) t).length≤t.length+l.length:=by
  intro l
  induction l with
  | nil=>intro t;simp
  | cons a l ih =>
   intro t
   have h1:=ih (t++zyv a (f a))
   have h2:=z7c a (f a)
   simp only[List.foldl_cons,yy6,List.length_cons] at h1 ⊢
   omega
 have:=h (List.range 6) []
 simpa[zku] using this
theorem zabp {l:List Power} {v:Int} (hl:l.length≤9223372036854775807):zkc l v=some (zd7 l v):=by
 obtain ⟨r,h1,h2⟩:=zhj (F:=fun s:Int×(List Power)×Int×Int=>(zg2 s.1 s.2.1 s.2.2.1 s.2.2.2).run) l.length
  (fun i (_:Unit)=>(v,l,(l.length:Int),(i:Int))) (fun i _=>True) (fun i _ r=>match r with | .inl x=>zd7 (l.drop i) v=x | .inr _=>zd7 (l.drop i) v=0) (by
   intro t _
   refine ⟨.inr (),?_,?_⟩
   ·simp only[zg2];rw[Tr.rf (by simp),Tr.rl]
   ·rw[List.drop_length];rfl) (by
   intro i t hi _
   have hs:=zbj (l:=l) (k:=i) hi default
   simp only[zg2,yy4]
   rw[Tr.rt (by simpa using hi),Tr.rg ⟨by omega,by rw[zar];omega⟩,hs]
   by_cases hv:(l.getD i default).V=v
   ·exact .inr ⟨.inl (l.getD i default).N,by rw[Tr.rt (by rw[hv];simp),Tr.rl],by simp only[zd7];rw[if_pos hv]⟩
   ·refine .inl ⟨(),by rw[Tr.rf (by simpa using hv),Tr.rl,zq (by omega)],trivial,?_⟩
    intro r hr
    simp only[zd7]
    rw[if_neg hv]
    exact hr) 0 () (by omega) trivial
 have h1:zs5 v l l.length 0=some r:=h1
 simp only[List.drop_zero] at h2
 rw[zkc,zt5]
 cases r with
 | inl x=>rw[Tr.ri h1,Tr.rl,← h2]
 | inr x=>rw[Tr.rj h1,Tr.rl,h2]
theorem zalu {a d acc:List Power} {v n w:Int} (hl:d.length≤9223372036854775807) :
  zk9 a d v n w d d.length 0 acc=some (a,d,v,z9c d v n,w,acc):=by
 rw[zk9]
 refine zkp (F:=fun s:(List Power)×(List Power)×Int×Int×Int×(List Power)×Int×Int×(List Power)=>(zf4 s.1 s.2.1 s.2.2.1 s.2.2.2.1 s.2.2.2.2.1 s.2.2.2.2.2.1 s.2.2.2.2.2.2.1 s.2.2.2.2.2.2.2.1 s.2.2.2.2.2.2.2.2).run) d default
  (fun i n=>(a,d,v,n,w,d,(d.length:Int),(i:Int),acc)) (fun _ _=>True) (fun n p=>if p.V=v then p.N else n) (fun n=>(a,d,v,n,w,acc)) ?_ ?_ n trivial
 ·intro t _
  simp only[zf4];rw[Tr.rf (by simp),Tr.rl]
 ·intro i t hi _
  refine ⟨?_,trivial⟩
  simp only[zf4,yy4]
  rw[Tr.rt (by simpa using hi),Tr.rg ⟨by omega,by rw[zar];omega⟩]
  by_cases hv:(d.getD i default).V=v
  ·rw[if_pos hv,Tr.rt (by rw[hv];simp),Tr.rl,zq (by omega)]
  ·rw[if_neg hv,Tr.rf (by simpa using hv),Tr.rl,zq (by omega)]
theorem zu1 {i n:Nat} (h:i < n):(List.range n).getD i 0=i:=by
 rw[yy0,List.getElem?_range h];rfl
theorem zalv {a d:List Power} (ha:a.length≤9223372036854775807) (hd:d.length≤9223372036854775807):zqp a d=some (zyw a d):=by
 have key:zla a d 0 []=some (zyw a d):=by
  rw[zla]
  refine zkp (F:=fun s:(List Power)×(List Power)×Int×(List Power)=>(zf5 s.1 s.2.1 s.2.2.1 s.2.2.2).run) (List.range 6) 0
   (fun i t=>(a,d,(i:Int),t)) (fun i t=>t.length≤i) (fun t (v:Nat)=>t++zyv v (z9c d v (zd7 a v))) (fun t=>t) ?_ ?_ [] (by simp)
  ·intro t _
   simp only[zf5,List.length_range];rw[Tr.rf (by rfl),Tr.rl]
  ·intro i t hi ht
   rw[List.length_range] at hi
   rw[zu1 hi]
   have h1:=z7c i (z9c d i (zd7 a i))
   refine ⟨?_,by rw[yy6];omega⟩
   simp only[zf5]
   rw[Tr.rt (by simp;omega),Tr.rb (zabp ha),Tr.rb (zalu hd)]
   simp only[]
   unfold zyv
   by_cases hp:0 < z9c d i (zd7 a i)
   ·rw[if_pos hp,Tr.rt (by simpa using hp),Tr.rg (by simp only[zar,yy5];omega),Tr.rl,zq (by omega)]
   ·rw[if_neg hp,Tr.rf (by simpa using hp),Tr.rl,zq (by omega),List.append_nil]
 rw[zqp,zsq,Tr.rb key,Tr.rl]
def z2z (v x y:Int):List Power:=if x≠y then [⟨v,x⟩] else []
def zv5 (f g:Nat→Int):List Power:=(List.range 6).foldl (fun t (v:Nat)=>t++z2z (v:Int) (g v) (f v)) []
theorem z7d (f:Nat→Int):zku f=zyv ((0:Nat):Int) (f 0)++(zyv ((1:Nat):Int) (f 1)++(zyv ((2:Nat):Int) (f 2)++(zyv ((3:Nat):Int) (f 3)++(zyv ((4:Nat):Int) (f 4)++(zyv ((5:Nat):Int) (f 5)++[]))))):=by
 show ((((([]++zyv ((0:Nat):Int) (f 0))++zyv ((1:Nat):Int) (f 1))++zyv ((2:Nat):Int) (f 2))++zyv ((3:Nat):Int) (f 3))++zyv ((4:Nat):Int) (f 4))++zyv ((5:Nat):Int) (f 5)=_
 simp only[List.nil_append,List.append_nil,List.append_assoc]
theorem z20 (f g:Nat→Int):zv5 f g=z2z ((0:Nat):Int) (g 0) (f 0)++(z2z ((1:Nat):Int) (g 1) (f 1)++(z2z ((2:Nat):Int) (g 2) (f 2)++(z2z ((3:Nat):Int) (g 3) (f 3)++(z2z ((4:Nat):Int) (g 4) (f 4)++(z2z ((5:Nat):Int) (g 5) (f 5)++[]))))):=by
 show ((((([]++z2z ((0:Nat):Int) (g 0) (f 0))++z2z ((1:Nat):Int) (g 1) (f 1))++z2z ((2:Nat):Int) (g 2) (f 2))++z2z ((3:Nat):Int) (g 3) (f 3))++z2z ((4:Nat):Int) (g 4) (f 4))++z2z ((5:Nat):Int) (g 5) (f 5)=_
 simp only[List.nil_append,List.append_nil,List.append_assoc]
theorem z21 {f g:Nat→Int} (h:∀ v,v < 6→f v=g v):zku f=zku g:=by
 rw[z7d,z7d,h 0 (by omega),h 1 (by omega),h 2 (by omega),h 3 (by omega),h 4 (by omega),h 5 (by omega)]
theorem zst (w x y:Int):(z2z w x y).length≤1:=by unfold z2z;split<;>simp
theorem zae8 (f g:Nat→Int):(zv5 f g).length≤6:=by
 have h0:=zst ((0:Nat):Int) (g 0) (f 0);have h1:=zst ((1:Nat):Int) (g 1) (f 1);have h2:=zst ((2:Nat):Int) (g 2) (f 2)
 have h3:=zst ((3:Nat):Int) (g 3) (f 3);have h4:=zst ((4:Nat):Int) (g 4) (f 4);have h5:=zst ((5:Nat):Int) (g 5) (f 5)
 rw[z20]
 simp only[yy6,List.length_nil]
 omega
def zep (l:zcd):Prop:=l.Said.length=l.Due.length∧l.Said.length≤400∧0≤l.Got∧l.Got≤l.Said.length∧l.Due.any (fun d=>decide (d < 0))=false
instance (l:zcd):Decidable (zep l):=inferInstanceAs (Decidable (_∧_))
def negs (l:List Int) (k:Nat):Bool:=(l.drop k).any (fun d=>decide (d < 0))
theorem zalw {l:List Int} {k:Nat} (h:l.length≤k):negs l k=false:=by
 unfold negs;rw[List.drop_eq_nil_of_le h];rfl
theorem zah2 {l:List Int} {k:Nat} (h:k < l.length):negs l k=(decide (l.getD k 0 < 0)||negs l (k+1)):=by
 unfold negs
 rw[List.drop_eq_getElem_cons h,List.any_cons,yy0,yy3 h]
 rfl
theorem zalx {l:List Int} (hl:l.length≤9223372036854775807):∃ r,zhy l l.length 0=some r∧(match r with | .inl k=>0≤k∧negs l 0=true | .inr _=>negs l 0=false):=by
 have:=zr7 (F:=fun s:(List Int)×Int×Int=>(zcf s.1 s.2.1 s.2.2).run)
  (fun s=>s.1=l∧s.2.1=l.length∧0≤s.2.2∧s.2.2≤l.length) (fun s=>l.length - s.2.2.toNat)
  (fun s r=>match r with | .inl k=>0≤k∧negs l s.2.2.toNat=true | .inr _=>negs l s.2.2.toNat=false) ?_ (l,(l.length:Int),0) ⟨rfl,rfl,by simp,by simp⟩
 ·exact this
 ·rintro ⟨x0,x1,x2⟩ ⟨h1,h2,h3,h4⟩
  simp only at h1 h2 h3 h4
  subst h1;subst h2
  simp only[zcf]
  by_cases hc:x2 < x0.length
  ·rw[Tr.rt (by simpa using hc),Tr.rg ⟨h3,hc⟩,Tr.rb (v:=decide (x0.getD x2.toNat 0 < 0)) (by rw[zvt,zsi,Tr.rl])]
   have hs:=zah2 (l:=x0) (k:=x2.toNat) (by omega)
   by_cases hd:x0.getD x2.toNat 0 < 0
   ·refine .inr ⟨_,by rw[Tr.rt (by simpa using hd),Tr.rl],?_⟩
    exact ⟨h3,by rw[hs,decide_eq_true hd];rfl⟩
   ·refine .inl ⟨_,by rw[Tr.rf (by simpa using hd),Tr.rl],⟨rfl,rfl,?_,?_⟩,?_,?_⟩
    ·simp only[];rw[zm (by omega) (by omega)];omega
    ·simp only[];rw[zm (by omega) (by omega)];omega
    ·simp only[];rw[zm (by omega) (by omega)];omega
    ·simp only[]
     rw[zm (by omega) (by omega),show (x2+1).toNat=x2.toNat+1 by omega]
     intro r hr
     rw[hs,decide_eq_false hd,Bool.false_or]
     exact hr
  ·refine .inr ⟨_,by rw[Tr.rf (by simpa using hc),Tr.rl],?_⟩
   exact zalw (by omega)
theorem zabq {l:List Int} (hl:l.length≤9223372036854775807):zd5 l=some (negs l 0):=by
 obtain ⟨r,h1,h2⟩:=zalx hl
 rw[zd5,zek]
 cases r with
 | inl k =>
  rw[Tr.rb (v:=k) (by rw[zft,zdz,Tr.ri h1,Tr.rl]),Tr.rl,h2.2]
  simp[h2.1]
 | inr k =>
  rw[Tr.rb (v := -1) (by rw[zft,zdz,Tr.rj h1,Tr.rl]),Tr.rl,h2]
  rfl
theorem zaly {l:zcd}:zep l↔(l.Said.length=l.Due.length∧l.Said.length≤400∧0≤l.Got∧l.Got≤l.Said.length)∧negs l.Due 0=false :=
 ⟨fun h=>⟨⟨h.1,h.2.1,h.2.2.1,h.2.2.2.1⟩,h.2.2.2.2⟩,fun h=>⟨h.1.1,h.1.2.1,h.1.2.2.1,h.1.2.2.2,h.2⟩⟩
theorem zzw (l:zcd):zeb l=some (decide (zep l)):=by
 rw[zeb,zw3]
 by_cases hc:l.Said.length=l.Due.length∧l.Said.length≤400∧0≤l.Got∧l.Got≤l.Said.length
 ·obtain ⟨h1,h2,h3,h4⟩:=hc
  rw[Tr.rf (by simp;omega),Tr.rb (zabq (by omega)),Tr.rl]
  congr 1
  rw[Bool.eq_iff_iff,decide_eq_true_iff,zaly,Bool.not_eq_true']
  exact ⟨fun h=>⟨⟨h1,h2,h3,h4⟩,h⟩,fun h=>h.2⟩
 ·rw[Tr.rt (by simp;omega),Tr.rl]
  congr 1
  symm
  simp only[yy8]
  intro h
  exact hc ⟨h.1,h.2.1,h.2.2.1,h.2.2.2.1⟩
theorem zah3 {l:List ByteArray} (h:l.length≤400):zb7 l=some l:=by
 rw[zb7,zgz]
 refine Tr.run_split (fun h0=>?_) (fun _=>?_) (.inr trivial)
 ·rw[Tr.rl,List.length_eq_zero_iff.1 h0]
 ·rw[Tr.rg (by simp only[Sl.len,List.length_nil];omega),Tr.rl]
theorem z9d {l:List Int} (h:l.length≤400):zac l=some l:=by
 rw[zac,zj2]
 refine Tr.run_split (fun h0=>?_) (fun _=>?_) (.inr trivial)
 ·rw[Tr.rl,List.length_eq_zero_iff.1 h0]
 ·rw[Tr.rg (by simp only[Sl.len,List.length_nil];omega),Tr.rl]
def z7e (l:zcd) (s:ByteArray) (u:Int):zcd×Int :=
 if ¬ zep l∨u < 0 then (l,2) else if l.Closed=true then (l,11) else if 400≤l.Said.length then (l,6)
 else ({ l with Said:=l.Said++[s],Due:=l.Due++[u] },0)
theorem zaoj (l:zcd) (s:ByteArray) (u:Int):zsk l s u=some (z7e l s u):=by
 rw[zsk,zzp,Tr.rb (zzw l)]
 unfold z7e
 by_cases hg:¬ zep l∨u < 0
 ·rw[Tr.rt (by simpa using hg),Tr.rl,if_pos hg]
 ·rw[Tr.rf (by simpa using hg),if_neg hg,Tr.run_ite]
  simp only[not_or,Decidable.not_not] at hg
  obtain ⟨⟨h1,h2,h3,h4,h5⟩,h6⟩:=hg
  by_cases hcl:l.Closed=true
  ·rw[if_pos hcl,if_pos hcl,Tr.rl]
  ·rw[if_neg hcl,if_neg hcl]
   by_cases hn:400≤l.Said.length
   ·rw[Tr.rt (by simp;omega),Tr.rl,if_pos hn]
   ·have e1:=zah3 (l:=l.Said) (by omega)
    have e2:=z9d (l:=l.Due) (by omega)
    rw[Tr.rf (by simp;omega),if_neg hn,e1,e2,Tr.rg Option.isSome_some,Tr.rg (by simp only[yy2,Sl.len,yy5];omega),Tr.rg Option.isSome_some,Tr.rg (by simp only[yy2,Sl.len,yy5];omega),Tr.rl]
    rfl
def znv (l:zcd) (k:Int) (s:ByteArray) (said time:Int):zcd×Int :=
 if ¬ zep l then (l,2) else if l.Closed=true then (l,11) else if k≠l.Got+1 then (l,10)
 else if said < k∨(l.Said.length:Int) < k∨(l.Said.getD l.Got.toNat .empty).toList≠s.toList then (l,9)
 else if l.Due.getD l.Got.toNat 0≤time then (l,12) else ({ l with Got:=k },0)
theorem z5g (l:zcd) (k:Int) (s:ByteArray) (said time:Int):zk l k s said time=some (znv l k s said time):=by
 rw[zk,zqj,Tr.rb (zzw l)]
 unfold znv
 by_cases hg:zep l
 ·rw[Tr.rf (by simpa using hg),if_neg (by simpa using hg),Tr.run_ite]
  obtain ⟨h1,h2,h3,h4,h5⟩:=hg
  by_cases hcl:l.Closed=true
  ·rw[if_pos hcl,if_pos hcl,Tr.rl]
  ·rw[if_neg hcl,if_neg hcl,zm (x:=l.Got+1) (by omega) (by omega)]
   by_cases hk:k=l.Got+1
   ·rw[Tr.rf (by simpa using hk),if_neg (by simpa using hk),zm (x:=k - 1) (by omega) (by omega),show k - 1=l.Got by omega]
    by_cases hs:said < k∨(l.Said.length:Int) < k
    ·rw[Tr.rg (by intro h;simp at h;omega),Tr.rt (by simp;omega),Tr.rl,if_pos (by rcases hs with h | h<;>simp[h])]
    ·rw[Tr.rg (by intro h;simp only[Sl.len];exact ⟨⟨h3,by omega⟩,trivial⟩)]
     by_cases he:(l.Said.getD l.Got.toNat .empty).toList=s.toList
     ·rw[Tr.rf (by rw[he];simp;omega),Tr.rg (by simp only[Sl.len];exact ⟨h3,by omega⟩),if_neg (by simp only[not_or,Decidable.not_not];exact ⟨by omega,by omega,he⟩)]
      by_cases ht:l.Due.getD l.Got.toNat 0≤time
      ·rw[Tr.rt (by simpa using ht),Tr.rl,if_pos ht]
      ·rw[Tr.rf (by simpa using ht),Tr.rl,if_neg ht]
     ·rw[Tr.rt (by simp only[Bool.or_eq_true,Bool.not_eq_true',beq_eq_false_iff_ne];exact .inr he),Tr.rl,if_pos (.inr (.inr he))]
   ·rw[Tr.rt (by simpa using hk),Tr.rl,if_pos (by simpa using hk)]
 ·rw[Tr.rt (by simpa using hg),Tr.rl,if_pos hg]
def zzx (l:zcd) (k time got:Int):zcd×Int :=
 if ¬ zep l then (l,2) else if l.Closed=true then (l,11) else if k < 1∨(l.Said.length:Int) < k then (l,4)
 else if k≤got then (l,5) else if time < l.Due.getD (k - 1).toNat 0 then (l,13) else ({ l with Closed:=true },0)
theorem z9e (l:zcd) (k time got:Int):zl0 l k time got=some (zzx l k time got):=by
 rw[zl0,zsl,Tr.rb (zzw l)]
 unfold zzx
 by_cases hg:zep l
 ·rw[Tr.rf (by simpa using hg),if_neg (by simpa using hg),Tr.run_ite]
  obtain ⟨h1,h2,h3,h4,h5⟩:=hg
  by_cases hcl:l.Closed=true
  ·rw[if_pos hcl,if_pos hcl,Tr.rl]
  ·rw[if_neg hcl,if_neg hcl]
   by_cases hk:k < 1∨(l.Said.length:Int) < k
   ·rw[Tr.rt (by simpa using hk),Tr.rl,if_pos hk]
   ·rw[Tr.rf (by simpa using hk),if_neg hk]
    by_cases hgt:k≤got
    ·rw[Tr.rt (by simpa using hgt),Tr.rl,if_pos hgt]
    ·rw[Tr.rf (by simpa using hgt),if_neg hgt,zm (x:=k - 1) (by omega) (by omega),Tr.rg (by simp only[Sl.len];exact ⟨by omega,by omega⟩)]
     by_cases ht:time < l.Due.getD (k - 1).toNat 0
     ·rw[Tr.rt (by simpa using ht),Tr.rl,if_pos ht]
     ·rw[Tr.rf (by simpa using ht),Tr.rl,if_neg ht]
 ·rw[Tr.rt (by simpa using hg),Tr.rl,if_pos hg]
theorem zae9 {l:zcd} {k:Int} {s:ByteArray} {said time:Int} (h:(znv l k s said time).2=0) :
  zep l∧¬ l.Closed=true∧k=l.Got+1∧k≤l.Said.length∧(l.Said.getD l.Got.toNat .empty).toList=s.toList∧time < l.Due.getD l.Got.toNat 0∧znv l k s said time=({ l with Got:=k },0):=by
 unfold znv at h ⊢
 by_cases h1:¬ zep l
 ·rw[if_pos h1] at h;cases h
 rw[if_neg h1] at h ⊢
 by_cases h2:l.Closed=true
 ·rw[if_pos h2] at h;cases h
 rw[if_neg h2] at h ⊢
 by_cases h3:k≠l.Got+1
 ·rw[if_pos h3] at h;cases h
 rw[if_neg h3] at h ⊢
 by_cases h4:said < k∨(l.Said.length:Int) < k∨(l.Said.getD l.Got.toNat .empty).toList≠s.toList
 ·rw[if_pos h4] at h;cases h
 rw[if_neg h4] at h ⊢
 by_cases h5:l.Due.getD l.Got.toNat 0≤time
 ·rw[if_pos h5] at h;cases h
 rw[if_neg h5]
 simp only[not_or,Decidable.not_not] at h1 h3 h4
 exact ⟨h1,h2,h3,by omega,h4.2.2,by omega,rfl⟩
def z6 (m:Int):Int→List Power→Bool
 | _,[]=>true
 | p,q::l=>decide (p < q.V)&&decide (q.V≤5)&&decide (m≤q.N)&&decide (q.N≤1125899906842624)&&z6 m q.V l
def zas:Int→List Int→Bool
 | _,[]=>true
 | p,q::l=>decide (p < q)&&decide (q≤5)&&zas q l
def zef (p:Packet):Int :=
 if p.Kind < 1∨4 < p.Kind then 3
 else if (p.Id < 1∨1099511627776 < p.Id)∨(3≤p.Kind∧(p.V < 0∨5 < p.V∨p.N < 1∨1125899906842624 < p.N)) then 2
 else if (p.Kind≤2∧(p.V≠0∨p.N≠0))∨(p.Kind≠1∧(0 < p.Set.length∨0 < p.Done.length)) then 1
 else if z6 0 (-1) p.Set=false then 2
 else if zas (-1) p.Done=false then 2
 else 0
def zgx (l:List Power) (i:Int):Int:=if i=0 then -1 else (l.getD (i - 1).toNat default).V
def znw (l:List Int) (i:Int):Int:=if i=0 then -1 else l.getD (i - 1).toNat 0
theorem zah4 {l:List Power} {m:Int} (hl:l.length≤9223372036854775807):zof l m=some (z6 m (-1) l):=by
 have key:∃ r,zpr l m l l.length 0=some r∧(match r with | .inl b=>b=false∧z6 m (-1) l=false | .inr _=>z6 m (-1) l=true):=by
  have:=zr7 (F:=fun s:(List Power)×Int×(List Power)×Int×Int=>(zhr s.1 s.2.1 s.2.2.1 s.2.2.2.1 s.2.2.2.2).run)
   (fun s=>s.1=l∧s.2.1=m∧s.2.2.1=l∧s.2.2.2.1=l.length∧0≤s.2.2.2.2∧s.2.2.2.2≤l.length ∧ -1≤zgx l s.2.2.2.2∧(0 < s.2.2.2.2→0≤zgx l s.2.2.2.2)) (fun s=>l.length - s.2.2.2.2.toNat)
   (fun s r=>match r with | .inl b=>b=false∧z6 m (zgx l s.2.2.2.2) (l.drop s.2.2.2.2.toNat)=false | .inr _=>z6 m (zgx l s.2.2.2.2) (l.drop s.2.2.2.2.toNat)=true) ?_ (l,m,l,(l.length:Int),0) ⟨rfl,rfl,rfl,rfl,by simp,by simp,by simp[zgx],by simp⟩
  ·exact this
  ·rintro ⟨x0,x1,x2,x3,x4⟩ ⟨h1,h2,h3,h4,h5,h6,h7,h8⟩
   simp only at h1 h2 h3 h4 h5 h6 h7 h8
   subst h1;subst h2;subst h3;subst h4
   simp only[zhr]
   by_cases hc:x4 < x2.length
   ·have hs:=zbj (l:=x2) (k:=x4.toNat) (by omega) default
    rw[Tr.rt (by simpa using hc),Tr.rg ⟨h5,hc⟩,Tr.rg (by
     intro h _
     simp only[decide_eq_true_eq] at h
     rw[zm (x:=x4 - 1) (by omega) (by omega)]
     exact ⟨⟨by omega,by simp only[Sl.len];omega⟩,trivial⟩)]
    rw[hs]
    have hp:(decide (x4 > 0)&&decide ((x2.getD (i64.wrap (x4 - 1)).toNat default).V≥(x2.getD x4.toNat default).V))=(decide (x4 > 0)&&decide (zgx x2 x4≥(x2.getD x4.toNat default).V)):=by
     by_cases h0:x4 > 0
     ·rw[zm (x:=x4 - 1) (by omega) (by omega)]
      unfold zgx
      rw[if_neg (by omega)]
     ·simp[h0]
    rw[hp]
    generalize hq:x2.getD x4.toNat default=q at *
    by_cases hd:zgx x2 x4 < q.V∧q.V≤5∧x1≤q.N∧q.N≤1125899906842624
    ·obtain ⟨d1,d2,d3,d4⟩:=hd
     have hw:i64.wrap (x4+1)=x4+1:=zm (by omega) (by omega)
     have hpv:zgx x2 (x4+1)=q.V:=by unfold zgx;rw[if_neg (by omega),show x4+1 - 1=x4 by omega,hq]
     refine .inl ⟨_,by rw[Tr.rf (by simp;omega),Tr.rl,hw],⟨rfl,rfl,rfl,rfl,?_,?_,?_,?_⟩,?_,?_⟩
     ·simp only[];omega
     ·simp only[];omega
     ·simp only[];rw[hpv];omega
     ·simp only[];rw[hpv];intro _;omega
     ·simp only[];omega
     ·simp only[]
      rw[hpv,show (x4+1).toNat=x4.toNat+1 by omega]
      intro r hr
      rw[z6,decide_eq_true d1,decide_eq_true d2,decide_eq_true d3,decide_eq_true d4]
      simpa using hr
    ·refine .inr ⟨_,by rw[Tr.rt (by
      by_cases h0:x4 > 0
      ·have:=h8 h0
       simp[h0];omega
      ·have:zgx x2 x4 = -1:=by unfold zgx;rw[if_pos (by omega)]
       simp[h0];omega),Tr.rl],?_⟩
     refine ⟨rfl,?_⟩
     rw[z6]
     simp only[Bool.and_eq_false_iff,yy8]
     omega
   ·refine .inr ⟨_,by rw[Tr.rf (by simpa using hc),Tr.rl],?_⟩
    try simp only[]
    rw[List.drop_eq_nil_of_le (by omega)];rfl
 obtain ⟨r,h1,h2⟩:=key
 rw[zof,zqk]
 cases r with
 | inl b=>rw[Tr.ri h1,Tr.rl,h2.1,h2.2]
 | inr x=>rw[Tr.rj h1,Tr.rl,h2]
theorem zaq2 {p:Packet} {l:List Int} (hp:p.Done=l) (hl:l.length≤9223372036854775807) :
  ∃ r,zs2 l l.length 0 p=some r∧(match r with | .inl b=>b=2∧zas (-1) l=false | .inr _=>zas (-1) l=true):=by
 have:=zr7 (F:=fun s:(List Int)×Int×Int×Packet=>(zj5 s.1 s.2.1 s.2.2.1 s.2.2.2).run)
  (fun s=>s.1=l∧s.2.1=l.length∧0≤s.2.2.1∧s.2.2.1≤l.length∧s.2.2.2=p∧(0 < s.2.2.1→0≤znw l s.2.2.1)) (fun s=>l.length - s.2.2.1.toNat)
  (fun s r=>match r with | .inl b=>b=2∧zas (znw l s.2.2.1) (l.drop s.2.2.1.toNat)=false | .inr _=>zas (znw l s.2.2.1) (l.drop s.2.2.1.toNat)=true) ?_ (l,(l.length:Int),0,p) ⟨rfl,rfl,by simp,by simp,rfl,by simp⟩
 ·exact this
 ·rintro ⟨x0,x1,x2,x3⟩ ⟨h1,h2,h3,h4,h5,h6⟩
  simp only at h1 h2 h3 h4 h5 h6
  rw[h1,h2,h5] at *
  simp only[zj5,hp]
  by_cases hc:x2 < l.length
  ·have hs:=zbj (l:=l) (k:=x2.toNat) (by omega) 0
   rw[Tr.rt (by simpa using hc),Tr.rg ⟨h3,hc⟩,Tr.rg (by
    intro h _
    simp only[decide_eq_true_eq] at h
    rw[zm (x:=x2 - 1) (by omega) (by omega)]
    exact ⟨⟨by omega,by simp only[Sl.len];omega⟩,trivial⟩)]
   rw[hs]
   have hp:(decide (x2 > 0)&&decide (l.getD (i64.wrap (x2 - 1)).toNat 0≥l.getD x2.toNat 0))=(decide (x2 > 0)&&decide (znw l x2≥l.getD x2.toNat 0)):=by
    by_cases h0:x2 > 0
    ·rw[zm (x:=x2 - 1) (by omega) (by omega)]
     unfold znw
     rw[if_neg (by omega)]
    ·simp[h0]
   rw[hp]
   generalize hq:l.getD x2.toNat 0=q at *
   by_cases hd:znw l x2 < q∧q≤5
   ·obtain ⟨d1,d2⟩:=hd
    have hw:i64.wrap (x2+1)=x2+1:=zm (by omega) (by omega)
    have hpv:znw l (x2+1)=q:=by unfold znw;rw[if_neg (by omega),show x2+1 - 1=x2 by omega,hq]
    have hq0:0≤q:=by
     by_cases h0:x2 > 0
     ·have:=h6 h0;omega
     ·have:znw l x2 = -1:=by unfold znw;rw[if_pos (by omega)]
      omega
    refine .inl ⟨_,by rw[Tr.rf (by simp;omega),Tr.rl,hw],⟨rfl,rfl,?_,?_,rfl,?_⟩,?_,?_⟩
    ·simp only[];omega
    ·simp only[];omega
    ·simp only[];rw[hpv];intro _;omega
    ·simp only[];omega
    ·simp only[]
     rw[hpv,show (x2+1).toNat=x2.toNat+1 by omega]
     intro r hr
     rw[zas,decide_eq_true d1,decide_eq_true d2]
     simpa using hr
   ·refine .inr ⟨_,by rw[Tr.rt (by
     by_cases h0:x2 > 0
     ·have:=h6 h0
      simp[h0];omega
     ·have:znw l x2 = -1:=by unfold znw;rw[if_pos (by omega)]
      simp[h0];omega),Tr.rl],?_⟩
    refine ⟨rfl,?_⟩
    rw[zas]
    simp only[Bool.and_eq_false_iff,yy8]
    omega
  ·refine .inr ⟨_,by rw[Tr.rf (by simpa using hc),Tr.rl],?_⟩
   try simp only[]
   rw[List.drop_eq_nil_of_le (by omega)];rfl
theorem zyx {p:Packet} (h1:p.Set.length*16≤140737488351232) (h2:p.Done.length*8≤140737488351232):zfu p=some (zef p):=by
 rw[zfu,ztx]
 unfold zef
 by_cases c1:p.Kind < 1∨4 < p.Kind
 ·rw[Tr.rt (by simpa using c1),Tr.rl,if_pos c1]
 ·rw[Tr.rf (by simpa using c1),if_neg c1]
  by_cases c2:p.Id < 1∨1099511627776 < p.Id
  ·rw[Tr.rt (by simpa using c2),Tr.rl,if_pos (.inl c2)]
  ·rw[Tr.rf (by simpa using c2)]
   by_cases c3:3≤p.Kind∧(p.V < 0∨5 < p.V∨p.N < 1∨1125899906842624 < p.N)
   ·rw[Tr.rt (by simp;omega),Tr.rl,if_pos (.inr c3)]
   ·rw[Tr.rf (by simp;omega),if_neg (by simp only[not_or];exact ⟨by simpa using c2,c3⟩)]
    by_cases c4:(p.Kind≤2∧(p.V≠0∨p.N≠0))∨(p.Kind≠1∧(0 < p.Set.length∨0 < p.Done.length))
    ·rw[Tr.rt (by rw[zm (x:=(p.Set.length:Int)+p.Done.length) (by omega) (by omega)];simp;omega),Tr.rl,if_pos c4]
    ·rw[Tr.rf (by rw[zm (x:=(p.Set.length:Int)+p.Done.length) (by omega) (by omega)];simp;omega),if_neg c4,Tr.rb (zah4 (by omega))]
     by_cases c5:z6 0 (-1) p.Set=false
     ·rw[Tr.rt (by rw[c5];rfl),Tr.rl,if_pos c5]
     ·rw[Tr.rf (by simpa using c5),if_neg c5]
      obtain ⟨r,e1,e2⟩:=zaq2 (p:=p) (l:=p.Done) rfl (by omega)
      cases r with
      | inl b=>rw[Tr.ri e1,Tr.rl,e2.1,if_pos e2.2]
      | inr b=>rw[Tr.rj e1,Tr.rl,if_neg (by rw[e2];simp)]
def byt (x:Int) (i:Nat):UInt8:=UInt8.ofNat (x.toNat / 256 ^ i)
def be (x:Int):Nat→List UInt8
 | 0=>[]
 | k+1=>byt x k::be x k
theorem zdg {x:Int}:∀ k,(be x k).length=k
 | 0=>rfl
 | k+1=>by rw[be,List.length_cons,zdg k]
theorem zabr (y:Int):IntKind.u8.wrap y=y % 256:=by
 unfold IntKind.wrap
 simp[IntKind.bits,IntKind.signed]
theorem zah5 {y:Int} (h0:0≤y) (h1:y≤9223372036854775807):u64.wrap y=y:=by
 unfold IntKind.wrap
 simp[IntKind.bits,IntKind.signed]
 omega
theorem zadk {x:Int} (hx:0≤x) {i:Nat} (hi:i≤7) :
  (IntKind.u8.wrap (Int.fdiv x (2 ^ (min (u64.wrap (i64.wrap (8*(i:Int)))).toNat 64))))=((x.toNat / 256 ^ i % 256:Nat):Int):=by
 rw[zm (by omega) (by omega),zah5 (by omega) (by omega),zabr]
 rw[show min (8*(i:Int)).toNat 64=8*i by omega,Int.fdiv_eq_ediv_of_nonneg _ (Int.le_of_lt (Int.pow_pos (by omega)))]
 obtain ⟨n,rfl⟩:=Int.eq_ofNat_of_zero_le hx
 have h2:(2:Int) ^ (8*i)=((256 ^ i:Nat):Int):=by rw[Int.pow_mul,Int.natCast_pow];rfl
 rw[h2,yy4]
 rfl
theorem zaw0 {x:Int} (hx:0≤x) {i:Nat} (hi:i≤7) :
  UInt8.ofNat (IntKind.u8.wrap (Int.fdiv x (2 ^ (min (u64.wrap (i64.wrap (8*(i:Int)))).toNat 64)))).toNat=byt x i:=by
 rw[zadk hx hi,yy4]
 unfold byt
 apply UInt8.toNat_inj.1
 rw[UInt8.toNat_ofNat',UInt8.toNat_ofNat']
 omega
theorem z0r {x:Int} {k:Nat} {b:List UInt8} (hx:0≤x) (hk:k≤7) (hk0:0 < k) (hb:b.length+k≤140737488355328):zo x k b=some (b++be x k):=by
 have key:zog x (k - 1:Int) b=some (b++be x k):=by
  have:=z6z (F:=fun s:Int×Int×(List UInt8)=>(zl1 s.1 s.2.1 s.2.2).run)
   (fun s=>s.1=x ∧ -1≤s.2.1∧s.2.1≤6∧s.2.2.length+(s.2.1+1).toNat≤140737488355328) (fun s=>(s.2.1+1).toNat) (fun s=>s.2.2++be x (s.2.1+1).toNat) ?_ (x,(k - 1:Int),b) ⟨rfl,by simp only[];omega,by simp only[];omega,by simp only[];omega⟩
  ·rw[zog,this];simp only[];rw[show ((k:Int) - 1+1).toNat=k by omega]
  ·rintro ⟨y,i,c⟩ ⟨h1,h2,h3,h4⟩
   simp only at h1 h2 h3 h4
   subst h1
   simp only[zl1]
   by_cases hc:i≥0
   ·obtain ⟨n,rfl⟩:=Int.eq_ofNat_of_zero_le hc
    have hw:i64.wrap ((n:Int) - 1)=(n:Int) - 1:=zm (by omega) (by omega)
    refine .inl ⟨(y,(n:Int) - 1,c++[byt y n]),?_,⟨rfl,by simp only[];omega,by simp only[];omega,by simp only[yy6,yy5];omega⟩,by simp only[];omega,?_⟩
    ·rw[Tr.rt (by simp),Tr.rg (by rw[zm (by omega) (by omega),zah5 (by omega) (by omega)];omega),Tr.rg (by rw[zadk hx (by omega)];omega),zaw0 hx (by omega),hw,Tr.rg (by simp only[Sl.len,yy5];omega),Tr.rl]
    ·simp only[]
     rw[show ((n:Int) - 1+1).toNat=n by omega,show ((n:Int)+1).toNat=n+1 by omega,be]
     simp
   ·refine .inr ?_
    rw[Tr.rf (by simpa using hc),Tr.rl,show (i+1).toNat=0 by omega,be,List.append_nil]
 rw[zo,zw4,zm (by omega) (by omega),Tr.rb key,Tr.rl]
theorem zn2 {m:Int} (hm:0≤m):∀ {l:List Power} {p:Int},z6 m p l=true → -1≤p→∀ q,q∈l→0≤q.V∧q.V≤5∧m≤q.N∧q.N≤1125899906842624
 | [],_,_,_,q,h=>by cases h
 | a::l,p,h,hp,q,hq=>by
  rw[z6] at h
  simp only[yy7,decide_eq_true_eq] at h
  obtain ⟨⟨⟨⟨h1,h2⟩,h3⟩,h4⟩,h5⟩:=h
  rcases List.mem_cons.1 hq with rfl | hq
  ·exact ⟨by omega,h2,h3,h4⟩
  ·exact zn2 hm h5 (by omega) q hq
theorem zlr {m:Int}:∀ {l:List Power} {p:Int},z6 m p l=true→p≤5→(l.length:Int)≤5 - p
 | [],p,_,hp=>by simp;omega
 | a::l,p,h,hp=>by
  rw[z6] at h
  simp only[yy7,decide_eq_true_eq] at h
  obtain ⟨⟨⟨⟨h1,h2⟩,h3⟩,h4⟩,h5⟩:=h
  have:=zlr h5 h2
  rw[List.length_cons];omega
theorem zu2:∀ {l:List Int} {p:Int},zas p l=true → -1≤p→∀ q,q∈l→0≤q∧q≤5
 | [],_,_,_,q,h=>by cases h
 | a::l,p,h,hp,q,hq=>by
  rw[zas] at h
  simp only[yy7,decide_eq_true_eq] at h
  obtain ⟨⟨h1,h2⟩,h5⟩:=h
  rcases List.mem_cons.1 hq with rfl | hq
  ·exact ⟨by omega,h2⟩
  ·exact zu2 h5 (by omega) q hq
theorem zu3:∀ {l:List Int} {p:Int},zas p l=true→p≤5→(l.length:Int)≤5 - p
 | [],p,_,hp=>by simp;omega
 | a::l,p,h,hp=>by
  rw[zas] at h
  simp only[yy7,decide_eq_true_eq] at h
  obtain ⟨⟨h1,h2⟩,h5⟩:=h
  have:=zu3 h5 h2
  rw[List.length_cons];omega
def z7f (l:List Power):List UInt8:=l.flatMap fun q=>be q.V 1++be q.N 7
def z9f (l:List Int):List UInt8:=l.flatMap fun q=>be q 1
def zvl (p:Packet):List UInt8:=be p.Kind 1++be p.Id 6++be p.V 1++be p.N 7++be p.Set.length 1++z7f p.Set++be p.Done.length 1++z9f p.Done
def txt (l:List UInt8):ByteArray:=⟨l.toArray⟩
theorem zyy (l:List UInt8):(txt l).size=l.length:=rfl
theorem z5h (l:List UInt8):(txt l).data.toList=l:=rfl
theorem z22 (q:Power) (l:List Power):z7f (q::l)=be q.V 1++be q.N 7++z7f l:=by simp[z7f]
theorem z23 (q:Int) (l:List Int):z9f (q::l)=be q 1++z9f l:=by simp[z9f]
theorem zsu:∀ l:List Power,(z7f l).length=8*l.length
 | []=>rfl
 | q::l=>by rw[z22,yy6,yy6,zdg,zdg,zsu l,List.length_cons];omega
theorem z24:∀ l:List Int,(z9f l).length=l.length
 | []=>rfl
 | q::l=>by rw[z23,yy6,zdg,z24 l,List.length_cons];omega
theorem zaq3 {l:List Power} {p:Packet} {b:List UInt8} (hq:∀ q,q∈l→0≤q.V∧q.V≤5∧0≤q.N∧q.N≤1125899906842624) (hl:l.length≤6) (hb:b.length≤1000) :
  zj6 l l.length 0 p b=some (p,b++z7f l):=by
 have:=z6z (F:=fun s:(List Power)×Int×Int×Packet×(List UInt8)=>(zhs s.1 s.2.1 s.2.2.1 s.2.2.2.1 s.2.2.2.2).run)
  (fun s=>s.1=l∧s.2.1=l.length∧0≤s.2.2.1∧s.2.2.1≤l.length∧s.2.2.2.1=p∧(s.2.2.2.2.length:Int)≤1000+8*s.2.2.1) (fun s=>l.length - s.2.2.1.toNat) (fun s=>(p,s.2.2.2.2++z7f (l.drop s.2.2.1.toNat))) ?_ (l,(l.length:Int),0,p,b) ⟨rfl,rfl,by simp,by simp,rfl,by simp only[];omega⟩
 ·rw[zj6,this];rfl
 ·rintro ⟨x0,x1,i,p',c⟩ ⟨h1,h2,h3,h4,h5,h6⟩
  simp only at h1 h2 h3 h4 h5 h6
  rw[h1,h2,h5]
  simp only[zhs]
  by_cases hc:i < l.length
  ·have hs:=zbj (l:=l) (k:=i.toNat) (by omega) default
   obtain ⟨q1,q2,q3,q4⟩:=hq _ (zgv (l:=l) (k:=i.toNat) (by omega) default)
   rw[hs]
   generalize l.getD i.toNat default=q at *
   have hw:i64.wrap (i+1)=i+1:=zm (by omega) (by omega)
   have e1:=z0r (x:=q.V) (k:=1) (b:=c) q1 (by omega) (by omega) (by omega)
   have e2:=z0r (x:=q.N) (k:=7) (b:=c++be q.V 1) q3 (by omega) (by omega) (by rw[yy6,zdg];omega)
   refine .inl ⟨(l,(l.length:Int),i+1,p,c++be q.V 1++be q.N 7),?_,⟨rfl,rfl,by simp only[];omega,by simp only[];omega,rfl,by simp only[yy6,zdg];omega⟩,by simp only[];omega,?_⟩
   ·rw[Tr.rt (by simpa using hc),Tr.rg ⟨h3,hc⟩]
    rw[show zo q.V 1 c=some (c++be q.V 1) from e1,Tr.rg Option.isSome_some]
    simp only[yy2]
    rw[show zo q.N 7 (c++be q.V 1)=some (c++be q.V 1++be q.N 7) from e2,Tr.rg Option.isSome_some,Tr.rl,hw]
    rfl
   ·simp only[]
    rw[show (i+1).toNat=i.toNat+1 by omega,z22]
    simp
  ·refine .inr ?_
   rw[Tr.rf (by simpa using hc),Tr.rl]
   try simp only[]
   rw[List.drop_eq_nil_of_le (by omega)]
   simp[z7f]
theorem zaq4 {l:List Int} {b:List UInt8} (hq:∀ q,q∈l→0≤q∧q≤5) (hl:l.length≤6) (hb:b.length≤2000) :
  zj7 l l.length 0 b=some (b++z9f l):=by
 have:=z6z (F:=fun s:(List Int)×Int×Int×(List UInt8)=>(zht s.1 s.2.1 s.2.2.1 s.2.2.2).run)
  (fun s=>s.1=l∧s.2.1=l.length∧0≤s.2.2.1∧s.2.2.1≤l.length∧(s.2.2.2.length:Int)≤2000+s.2.2.1) (fun s=>l.length - s.2.2.1.toNat) (fun s=>s.2.2.2++z9f (l.drop s.2.2.1.toNat)) ?_ (l,(l.length:Int),0,b) ⟨rfl,rfl,by simp,by simp,by simp only[];omega⟩
 ·rw[zj7,this];rfl
 ·rintro ⟨x0,x1,i,c⟩ ⟨h1,h2,h3,h4,h6⟩
  simp only at h1 h2 h3 h4 h6
  rw[h1,h2]
  simp only[zht]
  by_cases hc:i < l.length
  ·have hs:=zbj (l:=l) (k:=i.toNat) (by omega) 0
   obtain ⟨q1,q2⟩:=hq _ (zgv (l:=l) (k:=i.toNat) (by omega) 0)
   rw[hs]
   generalize l.getD i.toNat 0=q at *
   have hw:i64.wrap (i+1)=i+1:=zm (by omega) (by omega)
   have e1:=z0r (x:=q) (k:=1) (b:=c) q1 (by omega) (by omega) (by omega)
   refine .inl ⟨(l,(l.length:Int),i+1,c++be q 1),?_,⟨rfl,rfl,by simp only[];omega,by simp only[];omega,by simp only[yy6,zdg];omega⟩,by simp only[];omega,?_⟩
   ·rw[Tr.rt (by simpa using hc),Tr.rg ⟨h3,hc⟩,Tr.rb (show zo q 1 c=some (c++be q 1) from e1),Tr.rl,hw]
   ·simp only[]
    rw[show (i+1).toNat=i.toNat+1 by omega,z23]
    simp
  ·refine .inr ?_
   rw[Tr.rf (by simpa using hc),Tr.rl]
   try simp only[]
   rw[List.drop_eq_nil_of_le (by omega)]
   simp[z9f]
theorem zn3 {p:Packet} (h:zef p=0):1≤p.Kind∧p.Kind≤4∧1≤p.Id∧p.Id≤1099511627776∧0≤p.V∧p.V≤5∧0≤p.N∧p.N≤1125899906842624∧z6 0 (-1) p.Set=true∧zas (-1) p.Done=true ∧
  (p.Kind≤2→p.V=0∧p.N=0)∧(p.Kind≠1→p.Set=[]∧p.Done=[]):=by
 unfold zef at h
 by_cases c1:p.Kind < 1∨4 < p.Kind
 ·rw[if_pos c1] at h;cases h
 rw[if_neg c1] at h
 by_cases c2:(p.Id < 1∨1099511627776 < p.Id)∨(3≤p.Kind∧(p.V < 0∨5 < p.V∨p.N < 1∨1125899906842624 < p.N))
 ·rw[if_pos c2] at h;cases h
 rw[if_neg c2] at h
 by_cases c4:(p.Kind≤2∧(p.V≠0∨p.N≠0))∨(p.Kind≠1∧(0 < p.Set.length∨0 < p.Done.length))
 ·rw[if_pos c4] at h;cases h
 rw[if_neg c4] at h
 by_cases c5:z6 0 (-1) p.Set=false
 ·rw[if_pos c5] at h;cases h
 rw[if_neg c5] at h
 by_cases c6:zas (-1) p.Done=false
 ·rw[if_pos c6] at h;cases h
 refine ⟨by omega,by omega,by omega,by omega,by omega,by omega,by omega,by omega,by simpa using c5,by simpa using c6,fun _=>by omega,fun hk=>?_⟩
 exact ⟨List.length_eq_zero_iff.1 (by omega),List.length_eq_zero_iff.1 (by omega)⟩
def zhl (p:Packet):ByteArray×Int:=if zef p=0 then (txt (zvl p),0) else (txt [],zef p)
theorem z25 {p:Packet} (h1:p.Set.length*16≤140737488351232) (h2:p.Done.length*8≤140737488351232):zbg p=some (zhl p):=by
 rw[zbg,zql,Tr.rb (zyx h1 h2)]
 unfold zhl
 by_cases hg:zef p=0
 ·obtain ⟨g1,g2,g3,g4,g5,g6,g7,g8,g9,g10,_,_⟩:=zn3 hg
  have l1:=zlr g9 (by omega)
  have l2:=zu3 g10 (by omega)
  have hk:UInt8.ofNat (IntKind.u8.wrap p.Kind).toNat=byt p.Kind 0:=by
   rw[zabr]
   unfold byt
   apply UInt8.toNat_inj.1
   rw[UInt8.toNat_ofNat',UInt8.toNat_ofNat',Nat.pow_zero,Nat.div_one]
   omega
  have e1:zo p.Id 6 [byt p.Kind 0]=some ([byt p.Kind 0]++be p.Id 6):=z0r (k:=6) (by omega) (by omega) (by omega) (by rw[yy5];omega)
  have e2:zo p.V 1 ([byt p.Kind 0]++be p.Id 6)=some ([byt p.Kind 0]++be p.Id 6++be p.V 1):=z0r (k:=1) (by omega) (by omega) (by omega) (by simp only[yy6,zdg,yy5];omega)
  have e3:zo p.N 7 ([byt p.Kind 0]++be p.Id 6++be p.V 1)=some ([byt p.Kind 0]++be p.Id 6++be p.V 1++be p.N 7):=z0r (k:=7) (by omega) (by omega) (by omega) (by simp only[yy6,zdg,yy5];omega)
  have e4:zo p.Set.length 1 ([byt p.Kind 0]++be p.Id 6++be p.V 1++be p.N 7)=some ([byt p.Kind 0]++be p.Id 6++be p.V 1++be p.N 7++be p.Set.length 1):=z0r (k:=1) (by omega) (by omega) (by omega) (by simp only[yy6,zdg,yy5];omega)
  have e5:=zaq3 (p:=p) (b:=[byt p.Kind 0]++be p.Id 6++be p.V 1++be p.N 7++be p.Set.length 1) (zn2 (by omega) g9 (by omega)) (by omega) (by simp only[yy6,zdg,yy5];omega)
  rw[Tr.rf (by simp[hg]),if_pos hg,Tr.rg (by rw[zabr];omega),hk,e1,Tr.rg Option.isSome_some]
  simp only[yy2]
  rw[e2,Tr.rg Option.isSome_some]
  simp only[yy2]
  rw[e3,Tr.rg Option.isSome_some]
  simp only[yy2]
  rw[e4,Tr.rg Option.isSome_some]
  simp only[yy2]
  rw[Tr.rb e5]
  have hs:=zsu p.Set
  have e6:zo p.Done.length 1 ([byt p.Kind 0]++be p.Id 6++be p.V 1++be p.N 7++be p.Set.length 1++z7f p.Set)=some ([byt p.Kind 0]++be p.Id 6++be p.V 1++be p.N 7++be p.Set.length 1++z7f p.Set++be p.Done.length 1):=z0r (k:=1) (by omega) (by omega) (by omega) (by simp only[yy6,zdg,yy5];omega)
  have e7:=zaq4 (b:=[byt p.Kind 0]++be p.Id 6++be p.V 1++be p.N 7++be p.Set.length 1++z7f p.Set++be p.Done.length 1) (zu2 g10 (by omega)) (by omega) (by simp only[yy6,zdg,yy5];omega)
  rw[Tr.rb (show zo (((p,[byt p.Kind 0]++be p.Id 6++be p.V 1++be p.N 7++be p.Set.length 1++z7f p.Set):Packet×List UInt8).1.Done.length:Nat) 1 _=_ from e6),Tr.rb e7,Tr.rl]
  rfl
 ·rw[Tr.rt (by simpa using hg),Tr.rl,if_neg hg]
  rfl
theorem zadl {σ ρ:Type} {F:σ→Option (σ⊕ρ)} {s s':σ} (h:F s=some (.inl s')):zcv F s=zcv F s':=by rw[zr3,h]
theorem z1f {σ ρ:Type} {F:σ→Option (σ⊕ρ)} {s:σ} {r:ρ} (h:F s=some (.inr r)):zcv F s=some r:=by rw[zr3,h]
def numF (v:Nat) (l:List UInt8):Nat:=l.foldl (fun v c=>256*v+c.toNat) v
def num (l:List UInt8):Nat:=numF 0 l
theorem z9g (v:Nat) (c:UInt8) (l:List UInt8):numF v (c::l)=numF (256*v+c.toNat) l:=rfl
theorem zah6:∀ {l:List UInt8} {v i:Nat},v < 256 ^ i→numF v l < 256 ^ (i+l.length)
 | [],v,i,h=>h
 | c::l,v,i,h=>by
  have:=zah6 (l:=l) (v:=256*v+c.toNat) (i:=i+1) (by have:=c.toNat_lt;rw[Nat.pow_succ'];omega)
  rw[z9g,List.length_cons,show i+(l.length+1)=i+1+l.length by omega]
  exact this
theorem zaw1 {l:List UInt8} {k:Nat} (h:l.length≤k):num l < 256 ^ k:=by
 have:=zah6 (l:=l) (v:=0) (i:=0) (by simp)
 rw[Nat.zero_add] at this
 exact Nat.lt_of_lt_of_le this (Nat.pow_le_pow_right (by omega) h)
theorem zah7 (x:Int) (i:Nat):(byt x i).toNat=x.toNat / 256 ^ i % 256:=by
 unfold byt;rw[UInt8.toNat_ofNat']
theorem zah8 (x:Int):∀ (k v:Nat),numF v (be x k)=v*256 ^ k+x.toNat % 256 ^ k
 | 0,v=>by simp[be,numF,Nat.mod_one]
 | k+1,v=>by
  rw[be,z9g,zah8 x k,zah7,Nat.mod_pow_succ,Nat.pow_succ',Nat.add_mul,Nat.mul_comm (x.toNat / 256 ^ k % 256),Nat.mul_comm 256 v,Nat.mul_assoc]
  omega
theorem zyz {x:Int} {k:Nat} (h0:0≤x) (h:x.toNat < 256 ^ k):((num (be x k):Nat):Int)=x:=by
 obtain ⟨n,rfl⟩:=Int.eq_ofNat_of_zero_le h0
 unfold num
 rw[zah8,Nat.zero_mul,Nat.zero_add,yy4,Nat.mod_eq_of_lt (by simpa using h)]
theorem zaq6 {v c:Nat} (hv:v < 281474976710656) (hc:c < 256) :
  i64.wrap (((BitVec.ofInt 64 (i64.wrap ((v:Int)*2 ^ 8)) ||| BitVec.ofInt 64 (i64.wrap ((c:Nat):Int))).toNat:Nat):Int)=((256*v+c:Nat):Int):=by
 have h1:i64.wrap ((v:Int)*2 ^ 8)=((v*256:Nat):Int):=by rw[zm (by omega) (by omega)];omega
 have h2:i64.wrap ((c:Nat):Int)=((c:Nat):Int):=zm (by omega) (by omega)
 rw[h1,h2,BitVec.ofInt_natCast,BitVec.ofInt_natCast,BitVec.toNat_or,BitVec.toNat_ofNat,BitVec.toNat_ofNat,Nat.mod_eq_of_lt (by omega),Nat.mod_eq_of_lt (by omega)]
 have h3:=Nat.shiftLeft_add_eq_or_of_lt (i:=8) (b:=c) (by omega) v
 rw[Nat.shiftLeft_eq] at h3
 rw[← h3,zm (by omega) (by omega)]
 omega
theorem z27 (s:List UInt8) (a b:Nat):(txt s).extract a b=txt ((s.drop a).take (b - a)):=by
 apply ByteArray.ext
 rw[ByteArray.data_extract]
 apply Array.toList_inj.1
 rw[Array.toList_extract]
 rfl
theorem zaq7 {n:Int} {l:List UInt8} {t:zes} (hl:l.length≤7) :
  zex n 0 l l.length 0 t=some (n,((num l:Nat):Int),t):=by
 have:=zlq (F:=fun s:Int×Int×(List UInt8)×Int×Int×zes=>(zbt s.1 s.2.1 s.2.2.1 s.2.2.2.1 s.2.2.2.2.1 s.2.2.2.2.2).run) l.length
  (fun i (v:Nat)=>(n,(v:Int),l,(l.length:Int),(i:Int),t)) (fun i v=>v < 256 ^ i) (fun i v=>(n,((numF v (l.drop i):Nat):Int),t)) ?_ ?_ 0 0 (by omega) (by simp)
 ·rw[zex];exact this
 ·intro v hv
  simp only[zbt]
  rw[Tr.rf (by simp),Tr.rl,List.drop_length]
  rfl
 ·intro i v hi hv
  have hs:=zbj (l:=l) (k:=i) hi 0
  simp only[zbt,yy4]
  have hb:(256:Nat) ^ i≤256 ^ 6:=Nat.pow_le_pow_right (by omega) (by omega)
  have hc:=(l.getD i 0).toNat_lt
  refine .inl ⟨256*v+(l.getD i 0).toNat,?_,by rw[Nat.pow_succ'];omega,?_⟩
  ·rw[Tr.rt (by simpa using hi),Tr.rg ⟨by omega,by rw[z9b];omega⟩,Tr.rg (by omega),Tr.rl,zq (by omega),zaq6 (by omega) (by omega)]
  ·rw[hs];rfl
theorem z9h {n:Nat} {s:List UInt8} {b:Bool} (hn:n≤7) (hs:s.length≤140737488355328) :
  ze n ⟨txt s,b⟩=some (if s.length < n then ((0:Int),(⟨txt [],true⟩:zes)) else (((num (s.take n):Nat):Int),(⟨txt (s.drop n),b⟩:zes))):=by
 rw[ze,zh0]
 simp only[zyy,yy4]
 by_cases h:s.length < n
 ·rw[if_pos h,Tr.rt (by simpa using h),Tr.rl];rfl
 ·rw[if_neg h,Tr.rf (by simp;omega),Tr.rg (by omega),z27,Nat.sub_zero,List.drop_zero,Tr.rg (by rw[zyy,List.length_take];omega),z5h,
   Tr.rb (zaq7 (by rw[List.length_take];omega))]
  simp only[zyy,yy4]
  rw[Tr.rg (by omega),Tr.rl,z27,List.take_of_length_le (l:=s.drop n) (Nat.le_of_eq List.length_drop)]
theorem zct {n:Nat} {m:Int} (hm:m=n) {s:List UInt8} {b:Bool} (hn:n≤7) (hs:s.length≤140737488355328) (h:n≤s.length) :
  ze m ⟨txt s,b⟩=some (((num (s.take n):Nat):Int),(⟨txt (s.drop n),b⟩:zes)):=by
 rw[hm,z9h hn hs,if_neg (by omega)]
theorem zdk {n:Nat} {m:Int} (hm:m=n) {s:List UInt8} {b:Bool} (hn:n≤7) (hs:s.length≤140737488355328) (h:s.length < n) :
  ze m ⟨txt s,b⟩=some ((0:Int),(⟨txt [],true⟩:zes)):=by
 rw[hm,z9h hn hs,if_pos h]
def rdS:Nat→List UInt8→List Power
 | 0,_=>[]
 | n+1,s=>⟨(num (s.take 1):Nat),(num ((s.drop 1).take 7):Nat)⟩::rdS n (s.drop 8)
def rdD:Nat→List UInt8→List Int
 | 0,_=>[]
 | n+1,s=>((num (s.take 1):Nat):Int)::rdD n (s.drop 1)
theorem zxh (x:Int) (p0 p:Packet):zaw x p0 ⟨txt [],true⟩ p=some (p0,⟨txt [],true⟩,p):=by
 rw[zaw]
 refine z1f ?_
 simp only[zey]
 rw[Tr.rf (by simp),Tr.rl]
theorem zsv (x:Int) (p0 p:Packet):zax x p0 ⟨txt [],true⟩ p=some (p0,⟨txt [],true⟩,p):=by
 rw[zax]
 refine z1f ?_
 simp only[zez]
 rw[Tr.rf (by simp),Tr.rl]
theorem zah9 {p0:Packet}:∀ (k:Nat) {s:List UInt8} {p:Packet},s.length≤140737488355328→p.Set.length+k≤1000 →
  ∃ r:zes×Packet,zaw k p0 ⟨txt s,false⟩ p=some (p0,r.1,r.2) ∧
   (if 8*k≤s.length then r=(⟨txt (s.drop (8*k)),false⟩,{ p with Set:=p.Set++rdS k s }) else r.1=⟨txt [],true⟩)
 | 0,s,p,hs,hp=>by
  refine ⟨(⟨txt s,false⟩,p),?_,?_⟩
  ·rw[zaw]
   refine z1f ?_
   simp only[zey]
   rw[Tr.rf (by simp),Tr.rl]
  ·rw[if_pos (by omega)];try simp[rdS]
 | k+1,s,p,hs,hp=>by
  have hw:i64.wrap (((k+1:Nat):Int) - 1)=(k:Int):=by rw[zm (by omega) (by omega)];omega
  have key:∀ (v1:Int) (t1:zes) (v2:Int) (t2:zes),ze 1 ⟨txt s,false⟩=some (v1,t1)→ze 7 t1=some (v2,t2) →
    zaw (k+1:Nat) p0 ⟨txt s,false⟩ p=zaw k p0 t2 { p with Set:=p.Set++[⟨v1,v2⟩] }:=by
   intro v1 t1 v2 t2 e1 e2
   rw[zaw,zaw]
   refine zadl ?_
   simp only[zey]
   rw[Tr.rt (by first | (simp;omega) | simp),Tr.rb e1]
   simp only[e2,Option.isSome_some,yy2,hw]
   rw[Tr.rg (by trivial),Tr.rg (by simp only[zar,yy5];omega),Tr.rl]
  by_cases h1:s.length < 1
  ·rw[key 0 ⟨txt [],true⟩ 0 ⟨txt [],true⟩ (zdk (m:=1) (n:=1) rfl (by omega) hs h1) (zdk (m:=7) (n:=7) rfl (by omega) (by simp) (by simp))]
   exact ⟨(⟨txt [],true⟩,_),zxh _ _ _,by rw[if_neg (by omega)]⟩
  ·by_cases h2:s.length < 8
   ·rw[key _ _ 0 ⟨txt [],true⟩ (zct (m:=1) (n:=1) rfl (by omega) hs (by omega)) (zdk (m:=7) (n:=7) rfl (by omega) (by rw[List.length_drop];omega) (by rw[List.length_drop];omega))]
    exact ⟨(⟨txt [],true⟩,_),zxh _ _ _,by rw[if_neg (by omega)]⟩
   ·have e2:=zct (m:=7) (n:=7) rfl (s:=s.drop 1) (b:=false) (by omega) (by rw[List.length_drop];omega) (by rw[List.length_drop];omega)
    rw[key _ _ _ _ (zct (m:=1) (n:=1) rfl (by omega) hs (by omega)) e2,List.drop_drop]
    obtain ⟨r,q1,q2⟩:=zah9 (p0:=p0) k (s:=s.drop (1+7)) (p:={ p with Set:=p.Set++[⟨(num (s.take 1):Nat),(num ((s.drop 1).take 7):Nat)⟩] }) (by rw[List.length_drop];omega) (by simp only[yy6,yy5];omega)
    refine ⟨r,q1,?_⟩
    rw[List.length_drop] at q2
    by_cases h3:8*(k+1)≤s.length
    ·rw[if_pos h3]
     rw[if_pos (by omega)] at q2
     rw[q2,List.drop_drop,show 1+7+8*k=8*(k+1) by omega]
     simp[rdS]
    ·rw[if_neg h3]
     rwa [if_neg (by omega)] at q2
theorem zaia {p0:Packet}:∀ (k:Nat) {s:List UInt8} {p:Packet},s.length≤140737488355328→p.Done.length+k≤1000 →
  ∃ r:zes×Packet,zax k p0 ⟨txt s,false⟩ p=some (p0,r.1,r.2) ∧
   (if k≤s.length then r=(⟨txt (s.drop k),false⟩,{ p with Done:=p.Done++rdD k s }) else r.1=⟨txt [],true⟩)
 | 0,s,p,hs,hp=>by
  refine ⟨(⟨txt s,false⟩,p),?_,?_⟩
  ·rw[zax]
   refine z1f ?_
   simp only[zez]
   rw[Tr.rf (by simp),Tr.rl]
  ·rw[if_pos (by omega)];try simp[rdD]
 | k+1,s,p,hs,hp=>by
  have hw:i64.wrap (((k+1:Nat):Int) - 1)=(k:Int):=by rw[zm (by omega) (by omega)];omega
  have key:∀ (v1:Int) (t1:zes),ze 1 ⟨txt s,false⟩=some (v1,t1) →
    zax (k+1:Nat) p0 ⟨txt s,false⟩ p=zax k p0 t1 { p with Done:=p.Done++[v1] }:=by
   intro v1 t1 e1
   rw[zax,zax]
   refine zadl ?_
   simp only[zez]
   rw[Tr.rt (by first | (simp;omega) | simp)]
   simp only[e1,Option.isSome_some,yy2,hw]
   rw[Tr.rg (by trivial),Tr.rg (by simp only[zhk,yy5];omega),Tr.rl]
  by_cases h1:s.length < 1
  ·rw[key 0 ⟨txt [],true⟩ (zdk (m:=1) (n:=1) rfl (by omega) hs h1)]
   exact ⟨(⟨txt [],true⟩,_),zsv _ _ _,by rw[if_neg (by omega)]⟩
  ·rw[key _ _ (zct (m:=1) (n:=1) rfl (by omega) hs (by omega))]
   obtain ⟨r,q1,q2⟩:=zaia (p0:=p0) k (s:=s.drop 1) (p:={ p with Done:=p.Done++[((num (s.take 1):Nat):Int)] }) (by rw[List.length_drop];omega) (by simp only[yy6,yy5];omega)
   refine ⟨r,q1,?_⟩
   rw[List.length_drop] at q2
   by_cases h3:k+1≤s.length
   ·rw[if_pos h3]
    rw[if_pos (by omega)] at q2
    rw[q2,List.drop_drop,show 1+k=k+1 by omega]
    simp[rdD]
   ·rw[if_neg h3]
    rwa [if_neg (by omega)] at q2
def cnt (s:List UInt8):Nat:=num ((s.drop 15).take 1)
def cnt2 (s:List UInt8):Nat:=num ((s.drop (16+8*cnt s)).take 1)
def pkt (s:List UInt8):Packet :=
 ⟨(num (s.take 1):Nat),(num ((s.drop 1).take 6):Nat),(num ((s.drop 7).take 1):Nat),(num ((s.drop 8).take 7):Nat),rdS (cnt s) (s.drop 16),rdD (cnt2 s) (s.drop (17+8*cnt s))⟩
def zaw2:Packet:=⟨0,0,0,0,[],[]⟩
def za7 (s:List UInt8):Packet×Int :=
 if s.length≠17+8*cnt s+cnt2 s then (zaw2,1) else if zef (pkt s)≠0 then (zaw2,zef (pkt s)) else (pkt s,0)
theorem zu4 {l:List UInt8}:num (l.take 1) < 256:=zaw1 (k:=1) (by rw[List.length_take];omega)
theorem z5i:∀ (k:Nat) (s:List UInt8),(rdS k s).length=k
 | 0,_=>rfl
 | k+1,s=>by rw[rdS,List.length_cons,z5i k]
theorem z5j:∀ (k:Nat) (s:List UInt8),(rdD k s).length=k
 | 0,_=>rfl
 | k+1,s=>by rw[rdD,List.length_cons,z5j k]
theorem zuq {n k:Nat} {m:Int} (hm:m=n) (h1:1≤n) (hn:n≤7) {t:zes} (ht:t=⟨txt [],true⟩∨∃ s,t=⟨txt s,false⟩∧s.length < n+k∧s.length≤1000) :
  ∃ v t',ze m t=some (v,t')∧(t'=⟨txt [],true⟩∨∃ s,t'=⟨txt s,false⟩∧s.length < k∧s.length≤1000):=by
 rcases ht with rfl | ⟨s,rfl,h2,h3⟩
 ·exact ⟨_,_,zdk hm hn (by simp) (by simp;omega),.inl rfl⟩
 ·by_cases h:s.length < n
  ·exact ⟨_,_,zdk hm hn (by omega) h,.inl rfl⟩
  ·exact ⟨_,_,zct hm hn (by omega) (by omega),.inr ⟨_,rfl,by rw[List.length_drop];omega,by rw[List.length_drop];omega⟩⟩
theorem z9i {s:List UInt8} (hs:s.length≤140737488355328):ze0 (txt s)=some (za7 s):=by
 rw[ze0,zqm]
 by_cases h16:16≤s.length
 ·have e1:ze 1 ⟨txt s,false⟩=some (((num (s.take 1):Nat):Int),(⟨txt (s.drop 1),false⟩:zes)):=zct (n:=1) rfl (by omega) hs (by omega)
  have e2:ze 6 ⟨txt (s.drop 1),false⟩=some (((num ((s.drop 1).take 6):Nat):Int),(⟨txt (s.drop 7),false⟩:zes)):=by
   have h:=zct (n:=6) (m:=6) rfl (s:=s.drop 1) (b:=false) (by omega) (by rw[List.length_drop];omega) (by rw[List.length_drop];omega)
   rwa [List.drop_drop] at h
  have e3:ze 1 ⟨txt (s.drop 7),false⟩=some (((num ((s.drop 7).take 1):Nat):Int),(⟨txt (s.drop 8),false⟩:zes)):=by
   have h:=zct (n:=1) (m:=1) rfl (s:=s.drop 7) (b:=false) (by omega) (by rw[List.length_drop];omega) (by rw[List.length_drop];omega)
   rwa [List.drop_drop] at h
  have e4:ze 7 ⟨txt (s.drop 8),false⟩=some (((num ((s.drop 8).take 7):Nat):Int),(⟨txt (s.drop 15),false⟩:zes)):=by
   have h:=zct (n:=7) (m:=7) rfl (s:=s.drop 8) (b:=false) (by omega) (by rw[List.length_drop];omega) (by rw[List.length_drop];omega)
   rwa [List.drop_drop] at h
  have e5:ze 1 ⟨txt (s.drop 15),false⟩=some (((cnt s:Nat):Int),(⟨txt (s.drop 16),false⟩:zes)):=by
   have h:=zct (n:=1) (m:=1) rfl (s:=s.drop 15) (b:=false) (by omega) (by rw[List.length_drop];omega) (by rw[List.length_drop];omega)
   rwa [List.drop_drop] at h
  obtain ⟨r,f1,f2⟩:=zah9 (p0:=⟨0,0,0,0,[],[]⟩) (cnt s) (s:=s.drop 16) (p:=⟨(num (s.take 1):Nat),(num ((s.drop 1).take 6):Nat),(num ((s.drop 7).take 1):Nat),(num ((s.drop 8).take 7):Nat),[],[]⟩)
   (by rw[List.length_drop];omega) (by have:cnt s < 256:=zu4;simp only[List.length_nil];omega)
  rw[Tr.rb e1,Tr.rb e2,Tr.rb e3,Tr.rb e4,Tr.rb e5,Tr.rb f1]
  rw[List.length_drop] at f2
  unfold za7
  by_cases h8:8*cnt s≤s.length - 16
  ·rw[if_pos h8,List.drop_drop] at f2
   rw[f2]
   simp only[List.nil_append]
   by_cases h1:s.length < 17+8*cnt s
   ·rw[Tr.rb (zdk (m:=1) (n:=1) rfl (by omega) (by rw[List.length_drop];omega) (by rw[List.length_drop];omega)),Tr.rb (zsv _ _ _),Tr.rt (by simp),Tr.rl,if_pos (by omega)]
    rfl
   ·have e6:ze 1 ⟨txt (s.drop (16+8*cnt s)),false⟩=some (((cnt2 s:Nat):Int),(⟨txt (s.drop (17+8*cnt s)),false⟩:zes)):=by
     have h:=zct (n:=1) (m:=1) rfl (s:=s.drop (16+8*cnt s)) (b:=false) (by omega) (by rw[List.length_drop];omega) (by rw[List.length_drop];omega)
     rwa [List.drop_drop,show 16+8*cnt s+1=17+8*cnt s by omega] at h
    rw[Tr.rb e6]
    obtain ⟨r',g1,g2⟩:=zaia (p0:=⟨0,0,0,0,[],[]⟩) (cnt2 s) (s:=s.drop (17+8*cnt s)) (p:=⟨(num (s.take 1):Nat),(num ((s.drop 1).take 6):Nat),(num ((s.drop 7).take 1):Nat),(num ((s.drop 8).take 7):Nat),rdS (cnt s) (s.drop 16),[]⟩)
     (by rw[List.length_drop];omega) (by have:cnt2 s < 256:=zu4;simp only[List.length_nil];omega)
    rw[Tr.rb g1]
    rw[List.length_drop] at g2
    by_cases h2:cnt2 s≤s.length - (17+8*cnt s)
    ·rw[if_pos h2,List.drop_drop] at g2
     rw[g2]
     simp only[List.nil_append,ByteArray.toList_eq,z5h]
     by_cases h3:s.length≠17+8*cnt s+cnt2 s
     ·rw[if_pos h3,Tr.rt (by simp;omega),Tr.rl]
      rfl
     ·rw[if_neg h3,Tr.rf (by simp;omega)]
      refine (Tr.rb (zyx (p:=pkt s) (by rw[pkt,z5i];have:cnt s < 256:=zu4;omega) (by rw[pkt,z5j];have:cnt2 s < 256:=zu4;omega))).trans ?_
      by_cases h4:zef (pkt s)=0
      ·rw[if_neg (by simpa using h4),Tr.rf (by simpa using h4),Tr.rl];rfl
      ·rw[if_pos h4,Tr.rt (by simpa using h4),Tr.rl];rfl
    ·rw[if_neg h2] at g2
     rw[g2,Tr.rt (by simp),Tr.rl,if_pos (by omega)]
     rfl
  ·rw[if_neg h8] at f2
   rw[f2,Tr.rb (zdk (m:=1) (n:=1) rfl (by omega) (by simp) (by simp)),Tr.rb (zsv _ _ _),Tr.rt (by simp),Tr.rl,if_pos (by omega)]
   rfl
 ·obtain ⟨v1,t1,e1,k1⟩:=zuq (m:=1) (n:=1) rfl (k:=15) (by omega) (by omega) (.inr ⟨s,rfl,by omega,by omega⟩)
  obtain ⟨v2,t2,e2,k2⟩:=zuq (m:=6) (n:=6) rfl (k:=9) (by omega) (by omega) k1
  obtain ⟨v3,t3,e3,k3⟩:=zuq (m:=1) (n:=1) rfl (k:=8) (by omega) (by omega) k2
  obtain ⟨v4,t4,e4,k4⟩:=zuq (m:=7) (n:=7) rfl (k:=1) (by omega) (by omega) k3
  obtain ⟨v5,t5,e5,k5⟩:=zuq (m:=1) (n:=1) rfl (k:=0) (by omega) (by omega) k4
  obtain rfl:t5=⟨txt [],true⟩:=by rcases k5 with h | ⟨_,_,h,_⟩;exact h;omega
  rw[Tr.rb e1,Tr.rb e2,Tr.rb e3,Tr.rb e4,Tr.rb e5,Tr.rb (zxh _ _ _),
   Tr.rb (zdk (m:=1) (n:=1) rfl (by omega) (by simp) (by simp)),Tr.rb (zsv _ _ _),Tr.rt (by simp),Tr.rl]
  unfold za7
  rw[if_pos (by omega)]
  rfl
theorem zalz (n:Nat) (s:List UInt8):rdS (n+1) s=⟨(num (s.take 1):Nat),(num ((s.drop 1).take 7):Nat)⟩::rdS n (s.drop 8):=rfl
theorem zal0 (n:Nat) (s:List UInt8):rdD (n+1) s=((num (s.take 1):Nat):Int)::rdD n (s.drop 1):=rfl
theorem zsw {x:Int} {k:Nat} {r:List UInt8}:(be x k++r).take k=be x k:=List.take_left' (zdg k)
theorem zq5 {x:Int} {k:Nat} {r:List UInt8}:(be x k++r).drop k=r:=List.drop_left' (zdg k)
theorem zaic:∀ (l:List Power) (e:List UInt8),(∀ q,q∈l→0≤q.V∧q.V≤5∧0≤q.N∧q.N≤1125899906842624)→rdS l.length (z7f l++e)=l
 | [],e,h=>rfl
 | q::l,e,h=>by
  obtain ⟨h1,h2,h3,h4⟩:=h q (List.mem_cons_self ..)
  have ih:=zaic l e (fun x hx=>h x (List.mem_cons_of_mem _ hx))
  rw[List.length_cons,zalz,z22,List.append_assoc,List.append_assoc,zsw,zq5,zsw,show 8=1+7 from rfl,← List.drop_drop,zq5,zq5,ih,zyz h1 (by omega),zyz h3 (by omega)]
theorem zaid:∀ (l:List Int) (e:List UInt8),(∀ q,q∈l→0≤q∧q≤5)→rdD l.length (z9f l++e)=l
 | [],e,h=>rfl
 | q::l,e,h=>by
  obtain ⟨h1,h2⟩:=h q (List.mem_cons_self ..)
  have ih:=zaid l e (fun x hx=>h x (List.mem_cons_of_mem _ hx))
  rw[List.length_cons,zal0,z23,List.append_assoc,zsw,zq5,ih,zyz h1 (by omega)]
theorem z28 (p:Packet):(zvl p).length=17+8*p.Set.length+p.Done.length:=by
 unfold zvl
 simp only[yy6,zdg,zsu,z24]
 omega
theorem back {p:Packet} (hg:zef p=0) (e:List UInt8):cnt (zvl p++e)=p.Set.length∧cnt2 (zvl p++e)=p.Done.length∧pkt (zvl p++e)=p:=by
 obtain ⟨g1,g2,g3,g4,g5,g6,g7,g8,g9,g10,_,_⟩:=zn3 hg
 have l1:=zlr g9 (by omega)
 have l2:=zu3 g10 (by omega)
 have hs:zvl p++e=be p.Kind 1++(be p.Id 6++(be p.V 1++(be p.N 7++(be p.Set.length 1++(z7f p.Set++(be p.Done.length 1++(z9f p.Done++e))))))):=by
  unfold zvl;simp only[List.append_assoc]
 have d1:(zvl p++e).drop 1=be p.Id 6++(be p.V 1++(be p.N 7++(be p.Set.length 1++(z7f p.Set++(be p.Done.length 1++(z9f p.Done++e)))))):=by rw[hs,zq5]
 have d7:(zvl p++e).drop 7=be p.V 1++(be p.N 7++(be p.Set.length 1++(z7f p.Set++(be p.Done.length 1++(z9f p.Done++e))))):=by rw[show 7=1+6 from rfl,← List.drop_drop,d1,zq5]
 have d8:(zvl p++e).drop 8=be p.N 7++(be p.Set.length 1++(z7f p.Set++(be p.Done.length 1++(z9f p.Done++e)))):=by rw[show 8=7+1 from rfl,← List.drop_drop,d7,zq5]
 have d15:(zvl p++e).drop 15=be p.Set.length 1++(z7f p.Set++(be p.Done.length 1++(z9f p.Done++e))):=by rw[show 15=8+7 from rfl,← List.drop_drop,d8,zq5]
 have d16:(zvl p++e).drop 16=z7f p.Set++(be p.Done.length 1++(z9f p.Done++e)):=by rw[show 16=15+1 from rfl,← List.drop_drop,d15,zq5]
 have c1:cnt (zvl p++e)=p.Set.length:=by
  have:=zyz (x:=(p.Set.length:Int)) (k:=1) (by omega) (by omega)
  unfold cnt
  rw[d15,zsw];omega
 have dd:(zvl p++e).drop (16+8*p.Set.length)=be p.Done.length 1++(z9f p.Done++e):=by rw[← List.drop_drop,d16,List.drop_left' (zsu _)]
 have c2:cnt2 (zvl p++e)=p.Done.length:=by
  have:=zyz (x:=(p.Done.length:Int)) (k:=1) (by omega) (by omega)
  unfold cnt2
  rw[c1,dd,zsw];omega
 have dz:(zvl p++e).drop (17+8*p.Set.length)=z9f p.Done++e:=by rw[show 17+8*p.Set.length=16+8*p.Set.length+1 by omega,← List.drop_drop,dd,zq5]
 refine ⟨c1,c2,?_⟩
 unfold pkt
 rw[c1,c2,dz,d16,d8,d7,d1,zsw,zsw,zsw,zaic _ _ (zn2 (by omega) g9 (by omega)),zaid _ _ (zu2 g10 (by omega))]
 rw[show (zvl p++e).take 1=be p.Kind 1 by rw[hs,zsw]]
 rw[zyz (by omega) (by omega),zyz (by omega) (by omega),zyz (by omega) (by omega),zyz (by omega) (by omega)]
theorem zabs {p:Packet} (h:¬ zef p=0):zhl p=(txt [],zef p):=if_neg h
theorem zmm {p:Packet} (h:zef p=0):zhl p=(txt (zvl p),0):=if_pos h
theorem zbq (y:Int):u64.wrap y=y % 18446744073709551616:=by
 unfold IntKind.wrap
 simp[IntKind.bits,IntKind.signed]
theorem u8w (y:Int):IntKind.u8.wrap y=y % 256:=by
 unfold IntKind.wrap
 simp[IntKind.bits,IntKind.signed]
theorem zaie (n:Nat):u64.wrap ((n:Nat):Int)=((n % 18446744073709551616:Nat):Int):=by rw[zbq];omega
theorem zmn {n:Nat} (h:n < 18446744073709551616):u64.wrap ((n:Nat):Int)=((n:Nat):Int):=by rw[zbq];omega
theorem z7g (n k:Nat):Int.fdiv (n:Int) (2 ^ k)=((n / 2 ^ k:Nat):Int):=by
 rw[Int.fdiv_eq_ediv_of_nonneg _ (Int.le_of_lt (Int.pow_pos (by omega))),Int.natCast_ediv,Int.natCast_pow];rfl
theorem zadm (n:Nat):(BitVec.ofInt 64 (n:Int) &&& BitVec.ofInt 64 4294967295).toNat=n % 4294967296:=by
 rw[BitVec.ofInt_natCast,show (4294967295:Int)=((4294967295:Nat):Int) from rfl,BitVec.ofInt_natCast,BitVec.toNat_and,BitVec.toNat_ofNat,BitVec.toNat_ofNat]
 rw[show 4294967295 % 2 ^ 64=2 ^ 32 - 1 by decide,Nat.and_two_pow_sub_one_eq_mod]
 omega
theorem zur {x y:Nat} (hx:x < 4294967296) (hy:y < 4294967296):x*y≤18446744065119617025:=by
 have:=Nat.mul_le_mul (show x≤4294967295 by omega) (show y≤4294967295 by omega)
 omega
theorem zal1 {a b:Nat} (ha:a < 18446744073709551616) (hb:b < 18446744073709551616) :
  zjy a b=some (((a*b / 18446744073709551616:Nat):Int),((a*b % 18446744073709551616:Nat):Int)):=by
 rw[zjy,zk2]
 iterate 5 rw[Tr.rg (by omega)]
 rw[Tr.rl]
 simp only[z7g,zadm,zaie,← Int.natCast_mul,← Int.natCast_add]
 have hx:a=4294967296*(a / 4294967296)+a % 4294967296:=by omega
 have hy:b=4294967296*(b / 4294967296)+b % 4294967296:=by omega
 rw[show (2:Nat) ^ 32=4294967296 by decide]
 generalize hx1:a / 4294967296=x1 at *
 generalize hx0:a % 4294967296=x0 at *
 generalize hy1:b / 4294967296=y1 at *
 generalize hy0:b % 4294967296=y0 at *
 have p11:=zur (x:=x1) (y:=y1) (by omega) (by omega)
 have p10:=zur (x:=x1) (y:=y0) (by omega) (by omega)
 have p01:=zur (x:=x0) (y:=y1) (by omega) (by omega)
 have p00:=zur (x:=x0) (y:=y0) (by omega) (by omega)
 have hp:a*b=18446744073709551616*(x1*y1)+4294967296*(x1*y0)+4294967296*(x0*y1)+x0*y0:=by
  rw[hx,hy,Nat.add_mul,Nat.mul_add,Nat.mul_add,Nat.mul_assoc,Nat.mul_assoc,Nat.mul_left_comm x1,Nat.mul_left_comm x0];omega
 rw[hp,Nat.mod_eq_of_lt (a:=x0) (by omega),Nat.mod_eq_of_lt (a:=y0) (by omega)]
 generalize x1*y1=q11 at *
 generalize x1*y0=q10 at *
 generalize x0*y1=q01 at *
 generalize x0*y0=q00 at *
 congr 3
 omega
def zaq8 (l:List UInt8):Bool:=(List.range 256).all fun k=>k==0||(decide (1≤(l.getD k 0).toNat)&&decide ((l.getD k 0).toNat≤8)&&decide (2 ^ ((l.getD k 0).toNat - 1)≤k)&&decide (k < 2 ^ (l.getD k 0).toNat))
theorem zal2 {l:List UInt8} (h:zaq8 l=true) {k:Nat} (h0:0 < k) (h1:k < 256) :
  1≤(l.getD k 0).toNat∧(l.getD k 0).toNat≤8∧2 ^ ((l.getD k 0).toNat - 1)≤k∧k < 2 ^ (l.getD k 0).toNat:=by
 have:=List.all_eq_true.1 h k (List.mem_range.2 h1)
 simp only[Bool.or_eq_true,beq_iff_eq,yy7,decide_eq_true_eq] at this
 rcases this with h | ⟨⟨⟨h2,h3⟩,h4⟩,h5⟩
 ·omega
 ·exact ⟨h2,h3,h4,h5⟩
theorem zaw3 {n m t:Nat} (h1:1≤t) (h2:2 ^ (t - 1)≤n / 2 ^ m) (h3:n / 2 ^ m < 2 ^ t):2 ^ (m+t - 1)≤n∧n < 2 ^ (m+t):=by
 constructor
 ·have:=(Nat.le_div_iff_mul_le (Nat.pow_pos (by omega))).1 h2
  rwa [← Nat.pow_add,show t - 1+m=m+t - 1 by omega] at this
 ·have:=(Nat.div_lt_iff_lt_mul (Nat.pow_pos (by omega))).1 h3
  rwa [← Nat.pow_add,Nat.add_comm] at this
theorem zal3 {l:List UInt8} (h:zaq8 l=true) {n m:Nat} (hm:m≤56) (h0:0 < n / 2 ^ m) (h1:n / 2 ^ m < 256) :
  ∃ t:Nat,i64.wrap ((m:Int)+i64.wrap (((l.getD (IntKind.u8.wrap ((n / 2 ^ m:Nat):Int)).toNat 0).toNat:Nat):Int))=(t:Int)∧1≤t∧t≤64∧2 ^ (t - 1)≤n∧n < 2 ^ t:=by
 have e:(IntKind.u8.wrap ((n / 2 ^ m:Nat):Int)).toNat=n / 2 ^ m:=by rw[u8w];omega
 rw[e]
 obtain ⟨k1,k2,k3,k4⟩:=zal2 h h0 h1
 generalize (l.getD (n / 2 ^ m) 0).toNat=t at *
 obtain ⟨u1,u2⟩:=zaw3 k1 k3 k4
 refine ⟨m+t,?_,by omega,by omega,u1,u2⟩
 rw[zm (x:=(t:Int)) (by omega) (by omega),zm (by omega) (by omega)]
 omega
theorem zal4 {n:Nat} (h0:0 < n) (h1:n < 18446744073709551616):∃ t:Nat,zjz n=some (t:Int)∧1≤t∧t≤64∧2 ^ (t - 1)≤n∧n < 2 ^ t:=by
 rw[zjz,zk3]
 generalize hl:tabB=tab
 have htab:zaq8 tab.data.toList=true:=by rw[← hl];decide +kernel
 have hsz:tab.size=256:=by rw[← hl];decide +kernel
 clear hl
 simp only[z7g,Nat.div_div_eq_div_mul,← Nat.pow_add,hsz]
 have fin:∀ {m:Nat} {x:Int},m≤56→x=m→0 < n / 2 ^ m→n / 2 ^ m < 256→∃ t:Nat,(Tr.guard ((0:Int)≤IntKind.u8.wrap ((n / 2 ^ m:Nat):Int)∧IntKind.u8.wrap ((n / 2 ^ m:Nat):Int) < ((256:Nat):Int)) (.leaf (i64.wrap (x+i64.wrap (((tab.data.toList.getD (IntKind.u8.wrap ((n / 2 ^ m:Nat):Int)).toNat 0).toNat:Nat):Int))))).run=some (t:Int)∧1≤t∧t≤64∧2 ^ (t - 1)≤n∧n < 2 ^ t:=by
  intro m x hm hx g0 g1
  subst hx
  obtain ⟨t,e,k⟩:=zal3 htab hm g0 g1
  exact ⟨t,by rw[Tr.rg (by rw[u8w];omega),Tr.rl,e],k⟩
 by_cases c1:n≥4294967296
 ·rw[Tr.rt (by simp;omega),Tr.rg (by omega)]
  by_cases c2:n / 2 ^ 32≥65536
  ·rw[Tr.rt (by simp;omega),Tr.rg (by omega)]
   by_cases c3:n / 2 ^ (32+16)≥256
   ·rw[Tr.rt (by simp;omega),Tr.rg (by omega)]
    exact fin (m:=32+16+8) (by omega) rfl (by omega) (by omega)
   ·rw[Tr.rf (by simp;omega)]
    exact fin (m:=32+16) (by omega) rfl (by omega) (by omega)
  ·rw[Tr.rf (by simp;omega)]
   by_cases c3:n / 2 ^ 32≥256
   ·rw[Tr.rt (by simp;omega),Tr.rg (by omega)]
    exact fin (m:=32+8) (by omega) rfl (by omega) (by omega)
   ·rw[Tr.rf (by simp;omega)]
    exact fin (m:=32) (by omega) rfl (by omega) (by omega)
 ·rw[Tr.rf (by simp;omega)]
  by_cases c2:n≥65536
  ·rw[Tr.rt (by simp;omega),Tr.rg (by omega)]
   by_cases c3:n / 2 ^ 16≥256
   ·rw[Tr.rt (by simp;omega),Tr.rg (by omega)]
    exact fin (m:=16+8) (by omega) rfl (by omega) (by omega)
   ·rw[Tr.rf (by simp;omega)]
    exact fin (m:=16) (by omega) rfl (by omega) (by omega)
  ·rw[Tr.rf (by simp;omega)]
   by_cases c3:n≥256
   ·rw[Tr.rt (by simp;omega),Tr.rg (by omega)]
    exact fin (m:=8) (by omega) rfl (by omega) (by omega)
   ·rw[Tr.rf (by simp;omega)]
    have:=fin (m:=0) (x:=0) (by omega) rfl (by simpa using h0) (by simp;omega)
    simpa using this
theorem zaq9 {n:Nat} (h0:0 < n) (h1:n < 18446744073709551616):∃ s:Nat,zdq n=some (s:Int)∧s≤63∧9223372036854775808≤n*2 ^ s∧n*2 ^ s < 18446744073709551616:=by
 obtain ⟨t,e,k1,k2,k3,k4⟩:=zal4 h0 h1
 refine ⟨64 - t,?_,by omega,?_,?_⟩
 ·rw[zdq,zd2,Tr.rb e,Tr.rl,zm (by omega) (by omega)]
  congr 1;omega
 ·have:=Nat.mul_le_mul_right (2 ^ (64 - t)) k3
  rw[← Nat.pow_add,show t - 1+(64 - t)=63 by omega] at this
  exact this
 ·have:=Nat.mul_lt_mul_of_pos_right k4 (show 0 < 2 ^ (64 - t) from Nat.pow_pos (by omega))
  rw[← Nat.pow_add,show t+(64 - t)=64 by omega] at this
  exact this
set_option maxRecDepth 100000
theorem zir {σ ρ:Type} {F:σ→Option (σ⊕ρ)} {s s':σ} (h:F s=some (.inl s')):zcv F s=zcv F s':=by rw[zr3,h]
theorem zmo {σ ρ:Type} {F:σ→Option (σ⊕ρ)} {s:σ} {r:ρ} (h:F s=some (.inr r)):zcv F s=some r:=by rw[zr3,h]
structure Dig (y1 y0 u d t q r:Nat):Prop where
 hy1:2147483648≤y1
 hy1':y1 < 4294967296
 hy0:y0 < 4294967296
 hd:d < 4294967296
 hu:u < y1*4294967296+y0
 t1:t*(y1*4294967296+y0)≤u*4294967296+d
 t2:u*4294967296+d < (t+1)*(y1*4294967296+y0)
 qr:q*y1+r=u
 hr:r < 4294967296
 hq:t≤q
 hq':q≤4294967297
theorem Dig.small {y1 y0 u d t q r:Nat} (h:Dig y1 y0 u d t q r):t < 4294967296:=by
 have a:=h.hy1;have b:=h.hu;have c:=h.t1;have e:=h.hd
 refine Classical.byContradiction fun hn=>?_
 have:=Nat.mul_le_mul_right (y1*4294967296+y0) (show 4294967296≤t by omega)
 omega
theorem Dig.done {y1 y0 u d t q r:Nat} (h1:t*(y1*4294967296+y0)≤u*4294967296+d) (h2:u*4294967296+d < (t+1)*(y1*4294967296+y0)) (hqr:q*y1+r=u) (hq:t≤q)
  (hc:q*y0≤r*4294967296+d):q=t:=by
 have e:q*(y1*4294967296+y0)≤u*4294967296+d:=by
  rw[Nat.mul_add,← Nat.mul_assoc];omega
 refine Classical.byContradiction fun hn=>?_
 have:=Nat.mul_le_mul_right (y1*4294967296+y0) (show t+1≤q by omega)
 omega
theorem Dig.more {y1 y0 u d t q r:Nat} (h:Dig y1 y0 u d t q r) (hc:q≥4294967296∨r*4294967296+d < q*y0):t < q:=by
 rcases hc with hc | hc
 ·have:=h.small;omega
 ·have h1:=h.t1;have h3:=h.qr;have h4:=h.hq
  refine Classical.byContradiction fun hn=>?_
  obtain rfl:t=q:=by omega
  rw[Nat.mul_add,← Nat.mul_assoc] at h1
  omega
theorem Dig.brk {y1 y0 u d t q r:Nat} (h:Dig y1 y0 u d t q r) (hlt:t < q) (hr:4294967296≤r+y1):q - 1=t:=by
 obtain ⟨p,rfl⟩:∃ p,q=p+1:=⟨q - 1,by omega⟩
 have h3:=h.qr;have h4:=h.hy0;have h5:=h.hq'
 rw[Nat.succ_mul] at h3
 refine Dig.done (y1:=y1) (y0:=y0) (u:=u) (d:=d) (r:=r+y1) h.t1 h.t2 (by rw[Nat.add_sub_cancel];omega) (by omega) ?_
 rw[Nat.add_sub_cancel]
 have:=Nat.mul_le_mul (show p≤4294967296 by omega) (show y0≤4294967295 by omega)
 omega
theorem Dig.next {y1 y0 u d t q r:Nat} (h:Dig y1 y0 u d t q r) (hlt:t < q) (hr:r+y1 < 4294967296):Dig y1 y0 u d t (q - 1) (r+y1):=by
 obtain ⟨p,rfl⟩:∃ p,q=p+1:=⟨q - 1,by omega⟩
 have h3:=h.qr;have h5:=h.hq'
 rw[Nat.succ_mul] at h3
 exact ⟨h.hy1,h.hy1',h.hy0,h.hd,h.hu,h.t1,h.t2,by rw[Nat.add_sub_cancel];omega,hr,by omega,by omega⟩
theorem z1g {q:Nat} (h:0 < q) (h':q < 18446744073709551616):u64.wrap ((q:Int) - 1)=((q - 1:Nat):Int):=by rw[zbq];omega
theorem zara {x0 x1 x4 x6:Int} {y1 y0 u d t:Nat}:∀ (n q r:Nat),q≤n→Dig y1 y0 u d t q r →
  zcg x0 x1 y1 y0 x4 d x6 q r=some (x0,x1,(y1:Int),(y0:Int),x4,(d:Int),x6,(t:Int)):=by
 intro n
 induction n with
 | zero =>
  intro q r hn h
  have h5:=h.hq
  obtain rfl:q=0:=by omega
  obtain rfl:t=0:=by omega
  have h6:=h.hr
  rw[zcg]
  refine zmo ?_
  simp only[zbz]
  rw[Tr.rf (by simp[zbq];omega),Tr.rl]
 | succ n ih =>
  intro q r hn h
  have a1:=h.hy1;have a2:=h.hy1';have a3:=h.hy0;have a4:=h.hd;have a5:=h.hr;have a6:=h.hq'
  rw[zcg]
  by_cases hc:q≥4294967296∨r*4294967296+d < q*y0
  ·have hlt:=h.more hc
   have hT:((decide ((q:Int)≥4294967296))||(decide ((u64.wrap ((q:Int)*(y0:Int))) > (u64.wrap ((u64.wrap (4294967296*(r:Int)))+(d:Int))))))=true:=by
    by_cases hq:q≥4294967296
    ·rw[decide_eq_true (by omega)];rfl
    ·have hm:=zur (x:=q) (y:=y0) (by omega) a3
     rcases hc with hc | hc
     ·omega
     ·rw[← Int.natCast_mul,zmn (by omega),zbq,zbq,decide_eq_true (p:=((q*y0:Nat):Int) > _) (by omega),Bool.or_true]
   by_cases hb:r+y1≥4294967296
   ·refine zmo ?_
    simp only[zbz]
    rw[Tr.rt hT,Tr.rt (by rw[zbq];simp;omega),Tr.rl,z1g (by omega) (by omega),h.brk hlt hb]
   ·rw[← ih (q - 1) (r+y1) (by omega) (h.next hlt (by omega)),zcg]
    refine zir ?_
    simp only[zbz]
    rw[Tr.rt hT,Tr.rf (by rw[zbq];simp;omega),Tr.rl,z1g (by omega) (by omega),← Int.natCast_add,zmn (by omega)]
  ·have hq:q < 4294967296:=by omega
   have hm:=zur (x:=q) (y:=y0) hq a3
   have he:q=t:=Dig.done h.t1 h.t2 h.qr h.hq (by omega)
   refine zmo ?_
   simp only[zbz]
   rw[Tr.rf (by
    rw[decide_eq_false (by omega),Bool.false_or,← Int.natCast_mul,zmn (by omega),zbq,zbq,decide_eq_false (by omega)]),Tr.rl,he]
theorem zarb {x0 x1 x5 x7:Int} {y1 y0 u d t:Nat}:∀ (n q r:Nat),q≤n→Dig y1 y0 u d t q r →
  zch x0 x1 y1 y0 d x5 r x7 q=some (x0,x1,(d:Int),x5,x7,(t:Int)):=by
 intro n
 induction n with
 | zero =>
  intro q r hn h
  have h5:=h.hq
  obtain rfl:q=0:=by omega
  obtain rfl:t=0:=by omega
  have h6:=h.hr
  rw[zch]
  refine zmo ?_
  simp only[zb0]
  rw[Tr.rf (by simp[zbq];omega),Tr.rl]
 | succ n ih =>
  intro q r hn h
  have a1:=h.hy1;have a2:=h.hy1';have a3:=h.hy0;have a4:=h.hd;have a5:=h.hr;have a6:=h.hq'
  rw[zch]
  by_cases hc:q≥4294967296∨r*4294967296+d < q*y0
  ·have hlt:=h.more hc
   have hT:((decide ((q:Int)≥4294967296))||(decide ((u64.wrap ((q:Int)*(y0:Int))) > (u64.wrap ((u64.wrap (4294967296*(r:Int)))+(d:Int))))))=true:=by
    by_cases hq:q≥4294967296
    ·rw[decide_eq_true (by omega)];rfl
    ·have hm:=zur (x:=q) (y:=y0) (by omega) a3
     rcases hc with hc | hc
     ·omega
     ·rw[← Int.natCast_mul,zmn (by omega),zbq,zbq,decide_eq_true (p:=((q*y0:Nat):Int) > _) (by omega),Bool.or_true]
   by_cases hb:r+y1≥4294967296
   ·refine zmo ?_
    simp only[zb0]
    rw[Tr.rt hT,Tr.rt (by rw[zbq];simp;omega),Tr.rl,z1g (by omega) (by omega),h.brk hlt hb]
   ·rw[← ih (q - 1) (r+y1) (by omega) (h.next hlt (by omega)),zch]
    refine zir ?_
    simp only[zb0]
    rw[Tr.rt hT,Tr.rf (by rw[zbq];simp;omega),Tr.rl,z1g (by omega) (by omega),← Int.natCast_add,zmn (by omega)]
  ·have hq:q < 4294967296:=by omega
   have hm:=zur (x:=q) (y:=y0) hq a3
   have he:q=t:=Dig.done h.t1 h.t2 h.qr h.hq (by omega)
   refine zmo ?_
   simp only[zb0]
   rw[Tr.rf (by
    rw[decide_eq_false (by omega),Bool.false_or,← Int.natCast_mul,zmn (by omega),zbq,zbq,decide_eq_false (by omega)]),Tr.rl,he]
theorem z9j {y1 y0 u d:Nat} (hy1:2147483648≤y1) (hy1':y1 < 4294967296) (hy0:y0 < 4294967296) (hd:d < 4294967296) (hu:u < y1*4294967296+y0) :
  Dig y1 y0 u d ((u*4294967296+d) / (y1*4294967296+y0)) (u / y1) (u - u / y1*y1):=by
 have hpos:0 < y1*4294967296+y0:=by omega
 have e1:=Nat.div_add_mod u y1
 have e2:=Nat.mod_lt u (show y1 > 0 by omega)
 rw[Nat.mul_comm] at e1
 have f1:=Nat.div_add_mod (u*4294967296+d) (y1*4294967296+y0)
 have f2:=Nat.mod_lt (u*4294967296+d) hpos
 rw[Nat.mul_comm] at f1
 have hq':u / y1≤4294967297:=by
  refine Classical.byContradiction fun hn=>?_
  have:=Nat.mul_le_mul_right y1 (show 4294967298≤u / y1 by omega)
  omega
 generalize ht:(u*4294967296+d) / (y1*4294967296+y0)=t at *
 generalize hq:u / y1=q at *
 refine ⟨hy1,hy1',hy0,hd,hu,by omega,by rw[Nat.succ_mul];omega,by omega,by omega,?_,hq'⟩
 refine Classical.byContradiction fun hn=>?_
 have h1:=Nat.mul_le_mul_right (y1*4294967296+y0) (show q+1≤t by omega)
 rw[Nat.mul_add,← Nat.mul_assoc,Nat.succ_mul] at h1
 omega
theorem zaw4 {a b s:Nat} (hb:b < 2 ^ s) (ha:a*2 ^ s+b < 18446744073709551616):(BitVec.ofInt 64 ((a*2 ^ s:Nat):Int) ||| BitVec.ofInt 64 (b:Int)).toNat=a*2 ^ s+b:=by
 rw[BitVec.ofInt_natCast,BitVec.ofInt_natCast,BitVec.toNat_or,BitVec.toNat_ofNat,BitVec.toNat_ofNat,Nat.mod_eq_of_lt (by omega),Nat.mod_eq_of_lt (by omega)]
 have h3:=Nat.shiftLeft_add_eq_or_of_lt hb a
 rw[Nat.shiftLeft_eq] at h3
 exact h3.symm
theorem zaif {u z v q1 q0 z1 z0 u2:Nat} (h1:u*4294967296+z1=q1*v+u2) (h2:z=z1*4294967296+z0) (h3:q0*v≤u2*4294967296+z0) (h4:u2*4294967296+z0 < (q0+1)*v) :
  (u*18446744073709551616+z) / v=q1*4294967296+q0:=by
 have m1:(q1*4294967296+q0)*v=q1*v*4294967296+q0*v:=by rw[Nat.add_mul,Nat.mul_right_comm]
 have m2:(q1*4294967296+q0+1)*v=q1*v*4294967296+q0*v+v:=by rw[Nat.add_one_mul,m1]
 have m3:(q0+1)*v=q0*v+v:=Nat.add_one_mul q0 v
 rw[m3] at h4
 obtain ⟨k,hk⟩:∃ k,k=q1*v:=⟨_,rfl⟩
 obtain ⟨j,hj⟩:∃ j,j=q0*v:=⟨_,rfl⟩
 rw[← hk] at h1 m1 m2
 rw[← hj] at h3 h4 m1 m2
 have a1:k*4294967296+j≤u*18446744073709551616+z:=by clear m1 m2 m3 hk hj;omega
 have a2:u*18446744073709551616+z < k*4294967296+j+v:=by
  have h5:u*18446744073709551616+z1*4294967296=k*4294967296+u2*4294967296:=by
   have:=congrArg (·*4294967296) h1
   simpa only [Nat.add_mul,Nat.mul_assoc,Nat.reduceMul] using this
  obtain ⟨U,hU⟩:∃ U,U=u*18446744073709551616:=⟨_,rfl⟩
  obtain ⟨K,hK⟩:∃ K,K=k*4294967296:=⟨_,rfl⟩
  rw[← hU,← hK] at h5 ⊢
  clear m1 m2 m3 hk hj h1 hU hK h3;omega
 rw[← m1] at a1
 rw[← m2] at a2
 exact Nat.div_eq_of_lt_le a1 a2
theorem zal5 {h l y:Nat} (hh:h < y) (hl:l < 18446744073709551616) (hy:y < 18446744073709551616) :
  ∃ r,zj0 h l y=some ((((h*18446744073709551616+l) / y:Nat):Int),r):=by
 rw[zj0,zk4,Tr.rf (by simp;omega),Tr.rf (by simp;omega)]
 by_cases h0:h=0
 ·subst h0
  refine ⟨Int.tmod l y,?_⟩
  rw[Tr.rt (by simp),Tr.rg (by omega),Tr.rg (by omega),Tr.rl,zaav (by omega),← Int.natCast_ediv,zmn (by have:=Nat.div_le_self l y;omega),Nat.zero_mul,Nat.zero_add]
 ·obtain ⟨s,e0,s1,s2,s3⟩:=zaq9 (n:=y) (by omega) hy
  rw[Tr.rf (by simp;omega),Tr.rb e0]
  have hs0:0 < 2 ^ s:=Nat.pow_pos (by omega)
  have w1:u64.wrap ((s:Nat):Int)=(s:Int):=zmn (by omega)
  have w2:u64.wrap (64 - (s:Int))=((64 - s:Nat):Int):=by rw[zbq];omega
  have m1:min s 64=s:=by omega
  have m2:min (64 - s) 64=64 - s:=by omega
  have c2:(2:Int) ^ s=((2 ^ s:Nat):Int):=by rw[Int.natCast_pow];rfl
  have hle:h*2 ^ s+l / 2 ^ (64 - s) < y*2 ^ s:=by
   have a1:=Nat.mul_le_mul_right (2 ^ s) (show h+1≤y by omega)
   have a2:l / 2 ^ (64 - s) < 2 ^ s:=by
    rw[Nat.div_lt_iff_lt_mul (Nat.pow_pos (by omega)),← Nat.pow_add,show s+(64 - s)=64 by omega];exact hl
   rw[Nat.succ_mul] at a1;omega
  have hlo:l / 2 ^ (64 - s) < 2 ^ s:=by
   rw[Nat.div_lt_iff_lt_mul (Nat.pow_pos (by omega)),← Nat.pow_add,show s+(64 - s)=64 by omega];exact hl
  have hN:(h*18446744073709551616+l)*2 ^ s=(h*2 ^ s+l / 2 ^ (64 - s))*18446744073709551616+l*2 ^ s % 18446744073709551616:=by
   have k1:(18446744073709551616:Nat)=2 ^ (64 - s)*2 ^ s:=by rw[← Nat.pow_add,show 64 - s+s=64 by omega]
   have k2:=Nat.div_add_mod l (2 ^ (64 - s))
   have k3:l*2 ^ s % 18446744073709551616=(l % 2 ^ (64 - s))*2 ^ s:=by rw[k1,Nat.mul_mod_mul_right]
   rw[k3,Nat.add_mul,Nat.add_mul,Nat.mul_right_comm,Nat.add_assoc]
   congr 1
   conv=>lhs;rw[← k2]
   rw[Nat.add_mul]
   congr 1
   rw[k1]
   rw[Nat.mul_comm (2 ^ (64 - s)) (l / 2 ^ (64 - s)),Nat.mul_assoc]
  have hq:(h*18446744073709551616+l) / y=(h*18446744073709551616+l)*2 ^ s / (y*2 ^ s):=by rw[Nat.mul_div_mul_right _ _ hs0]
  rw[hq,hN]
  simp only[w1,w2,yy4,m1,m2,c2,z7g,← Int.natCast_mul,zaie,zadm]
  rw[Nat.mod_eq_of_lt s3,Nat.mod_eq_of_lt (a:=h*2 ^ s) (Nat.lt_of_le_of_lt (Nat.le_add_right _ _) (Nat.lt_trans hle s3))]
  rw[zaw4 hlo (Nat.lt_trans hle s3)]
  generalize y*2 ^ s=v at *
  generalize h*2 ^ s+l / 2 ^ (64 - s)=u at *
  generalize hz:l*2 ^ s % 18446744073709551616=z at *
  have hz':z < 18446744073709551616:=by rw[← hz];exact Nat.mod_lt _ (by omega)
  rw[show (2:Nat) ^ 32=4294967296 by decide]
  have hv:v=v / 4294967296*4294967296+v % 4294967296:=by omega
  have hv1:2147483648≤v / 4294967296:=by omega
  have hv2:v / 4294967296 < 4294967296:=by omega
  have hv3:v % 4294967296 < 4294967296:=by omega
  generalize hy1:v / 4294967296=y1 at *
  generalize hy0:v % 4294967296=y0 at *
  have hz1:z / 4294967296 < 4294967296:=by omega
  have hz0:z % 4294967296 < 4294967296:=by omega
  have hzz:z=z / 4294967296*4294967296+z % 4294967296:=by omega
  generalize z / 4294967296=z1 at *
  generalize z % 4294967296=z0 at *
  have A:=z9j (y1:=y1) (y0:=y0) (u:=u) (d:=z1) hv1 hv2 hv3 hz1 (by omega)
  rw[← hv] at A
  have hqq:=Nat.div_mul_le_self u y1
  iterate 6 rw[Tr.rg (by omega)]
  rw[Tr.rg (by omega)]
  rw[Nat.mod_eq_of_lt (a:=y0) (by omega),Nat.mod_eq_of_lt (a:=u) (by omega),Nat.mod_eq_of_lt (a:=z0) (by omega),zaav (x:=((u:Nat):Int)) (by omega)]
  rw[show ((u:Nat):Int) / ((y1:Nat):Int)=((u / y1:Nat):Int) from (Int.natCast_ediv ..).symm]
  have wq:u64.wrap (((u / y1:Nat)):Int)=((u / y1:Nat):Int):=zmn (by have:=Nat.div_le_self u y1;omega)
  rw[wq,← Int.natCast_mul,zmn (n:=u / y1*y1) (by omega),show ((u:Nat):Int) - ((u / y1*y1:Nat):Int)=((u - u / y1*y1:Nat):Int) by omega,zmn (n:=u - u / y1*y1) (by omega)]
  rw[Tr.rb (zara _ _ _ (Nat.le_refl _) A)]
  simp only[]
  rw[Tr.rg (by omega)]
  have ht:=A.small
  have T1:=A.t1;have T2:=A.t2
  rw[← hv] at T1 T2
  obtain ⟨q1,hq1⟩:∃ q1,q1=(u*4294967296+z1) / v:=⟨_,rfl⟩
  rw[← hq1] at ht T1 T2 ⊢
  have hr1:u64.wrap (u64.wrap (u64.wrap ((u:Int)*4294967296)+(z1:Int)) - u64.wrap ((q1:Int)*(v:Int)))=((u*4294967296+z1 - q1*v:Nat):Int):=by
   rw[Nat.succ_mul] at T2
   rw[← Int.natCast_mul,zbq,zbq,zbq,zbq]
   generalize q1*v=k at T1 T2 ⊢
   omega
  have hr2:u*4294967296+z1 - q1*v < v:=by rw[Nat.succ_mul] at T2;omega
  have hr3:u*4294967296+z1=q1*v+(u*4294967296+z1 - q1*v):=by omega
  rw[hr1]
  obtain ⟨u2,hu2⟩:∃ u2,u2=u*4294967296+z1 - q1*v:=⟨_,rfl⟩
  rw[← hu2] at hr2 hr3 ⊢
  have A2:=z9j (y1:=y1) (y0:=y0) (u:=u2) (d:=z0) hv1 hv2 hv3 hz0 (by omega)
  rw[← hv] at A2
  have hqq2:=Nat.div_mul_le_self u2 y1
  rw[zaav (x:=((u2:Nat):Int)) (by omega),show ((u2:Nat):Int) / ((y1:Nat):Int)=((u2 / y1:Nat):Int) from (Int.natCast_ediv ..).symm]
  have wq2:u64.wrap (((u2 / y1:Nat)):Int)=((u2 / y1:Nat):Int):=zmn (by have:=Nat.div_le_self u2 y1;omega)
  rw[wq2,← Int.natCast_mul,zmn (n:=u2 / y1*y1) (by omega),show ((u2:Nat):Int) - ((u2 / y1*y1:Nat):Int)=((u2 - u2 / y1*y1:Nat):Int) by omega,zmn (n:=u2 - u2 / y1*y1) (by omega)]
  rw[Tr.rb (zarb _ _ _ (Nat.le_refl _) A2)]
  simp only[]
  have ht2:=A2.small
  have T3:=A2.t1;have T4:=A2.t2
  rw[← hv] at T3 T4
  obtain ⟨q0,hq0⟩:∃ q0,q0=(u2*4294967296+z0) / v:=⟨_,rfl⟩
  rw[← hq0] at ht2 T3 T4 ⊢
  have hfin:(u*18446744073709551616+z) / v=q1*4294967296+q0:=zaif hr3 hzz T3 T4
  have hval:u64.wrap (u64.wrap ((q1:Int)*4294967296)+(q0:Int))=((q1*4294967296+q0:Nat):Int):=by rw[zbq,zbq];omega
  rw[Tr.rg (by omega),Tr.rl,hval,hfin]
  exact ⟨_,rfl⟩
def zls (a b c:Int):Int×Int:=if a < 0∨b < 0∨c < 1 then (0,2) else if 1125899906842624 < a*b / c then (0,2) else (a*b / c,0)
theorem z29 {a b c:Int} (ha:a≤9223372036854775807) (hb:b≤9223372036854775807) (hc:c≤9223372036854775807):zab a b c=some (zls a b c):=by
 rw[zab,zqa]
 unfold zls
 by_cases h:a < 0∨b < 0∨c < 1
 ·rw[if_pos h,Tr.rt (by simpa[or_assoc] using h),Tr.rl]
 ·rw[if_neg h,Tr.rf (by rw[Bool.eq_false_iff];intro k;apply h;simpa[or_assoc] using k)]
  obtain ⟨x,rfl⟩:=Int.eq_ofNat_of_zero_le (show 0≤a by omega)
  obtain ⟨y,rfl⟩:=Int.eq_ofNat_of_zero_le (show 0≤b by omega)
  obtain ⟨z,rfl⟩:=Int.eq_ofNat_of_zero_le (show 0≤c by omega)
  rw[zmn (by omega),zmn (by omega),zmn (n:=z) (by omega),Tr.rb (zal1 (by omega) (by omega)),← Int.natCast_mul,← Int.natCast_ediv]
  simp only[]
  obtain ⟨p,hp⟩:∃ p,p=x*y:=⟨_,rfl⟩
  rw[← hp]
  have e1:=Nat.div_add_mod p 18446744073709551616
  by_cases h1:p / 18446744073709551616≥z
  ·rw[Tr.rt (by simp;omega),Tr.rl,if_pos]
   have:1125899906842625≤p / z:=by
    rw[Nat.le_div_iff_mul_le (by omega)]
    omega
   omega
  ·obtain ⟨r,e⟩:=zal5 (h:=p / 18446744073709551616) (l:=p % 18446744073709551616) (y:=z) (by omega) (Nat.mod_lt _ (by omega)) (by omega)
   rw[Nat.mul_comm,e1] at e
   rw[Tr.rf (by simp;omega),Tr.rb e]
   simp only[]
   obtain ⟨w,hw⟩:∃ w,w=p / z:=⟨_,rfl⟩
   rw[← hw]
   by_cases h2:1125899906842624 < w
   ·rw[Tr.rt (by simp;omega),Tr.rl,if_pos (by omega)]
   ·rw[Tr.rf (by simp;omega),Tr.rl,if_neg (by omega),zm (by omega) (by omega)]
theorem zzy (n:Int):zae n=some (decide (0≤n∧n≤1125899906842624)):=by
 rw[zae,zzl,Tr.rl,Bool.decide_and]
theorem zaig {n f:Int} (hn:0≤n) (hn':n≤1125899906842624) (hf:0≤f) (hf':f≤1000):zls n f 1000=(n*f / 1000,0)∧0≤n*f∧n*f≤1000*n:=by
 have h1:0≤n*f:=Int.mul_nonneg hn hf
 have h2:n*f≤n*1000:=Int.mul_le_mul_of_nonneg_left hf' hn
 unfold zls
 rw[if_neg (by omega),if_neg (by omega)]
 exact ⟨rfl,h1,by omega⟩
def zus (n f:Int):Int×Int:=if n < 0∨1125899906842624 < n∨f < 0∨1000 < f then (0,2) else (n*f / 1000,0)
theorem zaih {n f:Int}:znp n f=some (zus n f):=by
 rw[znp,ztq,Tr.rb (zzy n)]
 unfold zus
 by_cases h:n < 0∨1125899906842624 < n∨f < 0∨1000 < f
 ·rw[if_pos h,Tr.rt (by simp;omega),Tr.rl]
 ·rw[if_neg h,Tr.rf (by simp;omega),Tr.rb (z29 (by omega) (by omega) (by omega)),Tr.rl,(zaig (by omega) (by omega) (by omega) (by omega)).1]
theorem zafa {α:Type} {l:List α} {k:Nat} (h:k < l.length) (d:α):l.drop k=l.getD k d::l.drop (k+1):=by
 rw[List.drop_eq_getElem_cons h,yy0,yy3 h];rfl
def totB (b:Bank):Int:=b.Free.x0+b.Free.x1+b.Free.x2+b.Free.x3+b.Bonded+b.Waiting+b.Burnt
def okN (x:Int):Prop:=0≤x∧x≤400000
instance (x:Int):Decidable (okN x):=inferInstanceAs (Decidable (_∧_))
theorem zaii {x:Int} (h:okN x):(decide (x < 0)||decide (x > 400000))=false:=by unfold okN at h;simp;omega
theorem zal6 {x:Int} (h:¬ okN x):(decide (x < 0)||decide (x > 400000))=true:=by unfold okN at h;simp;omega
def zis (b:Bank):Prop:=okN b.Free.x0∧okN b.Free.x1∧okN b.Free.x2∧okN b.Free.x3∧okN b.Bonded∧okN b.Waiting∧okN b.Burnt∧totB b=400000
instance (b:Bank):Decidable (zis b):=inferInstanceAs (Decidable (_∧_))
def plA (b:Bank):A7 Int:=⟨b.Free.x0,b.Free.x1,b.Free.x2,b.Free.x3,b.Bonded,b.Waiting,b.Burnt⟩
def bkA (a:A7 Int):Bank:=⟨⟨a.x0,a.x1,a.x2,a.x3⟩,a.x4,a.x5,a.x6⟩
theorem zafb (b:Bank):zwv b=some (i64.wrap (totB b)):=by
 have key:∀ x:Int,zqc x b.Free 0=some (i64.wrap (i64.wrap (i64.wrap (i64.wrap (x+b.Free.x0)+b.Free.x1)+b.Free.x2)+b.Free.x3)):=by
  intro x
  rw[zqc]
  refine (zir (s':=(i64.wrap (x+b.Free.x0),b.Free,1)) ?_).trans ((zir (s':=(i64.wrap (i64.wrap (x+b.Free.x0)+b.Free.x1),b.Free,2)) ?_).trans ((zir (s':=(i64.wrap (i64.wrap (i64.wrap (x+b.Free.x0)+b.Free.x1)+b.Free.x2),b.Free,3)) ?_).trans ((zir (s':=(i64.wrap (i64.wrap (i64.wrap (i64.wrap (x+b.Free.x0)+b.Free.x1)+b.Free.x2)+b.Free.x3),b.Free,4)) ?_).trans (zmo ?_))))
  ·simp only[zfq];rw[Tr.rt (by rfl),Tr.rg (by omega),Tr.rl];rfl
  ·simp only[zfq];rw[Tr.rt (by rfl),Tr.rg (by omega),Tr.rl];rfl
  ·simp only[zfq];rw[Tr.rt (by rfl),Tr.rg (by omega),Tr.rl];rfl
  ·simp only[zfq];rw[Tr.rt (by rfl),Tr.rg (by omega),Tr.rl];rfl
  ·simp only[zfq];rw[Tr.rf (by rfl),Tr.rl]
 rw[zwv,zzn,Tr.rb (key _),Tr.rl]
 congr 1
 simp only[IntKind.wrap_i64,totB]
 omega
theorem zlt (b:Bank):zfh b=some (decide (zis b)):=by
 rw[zfh,zww]
 obtain ⟨l,hl⟩:∃ l,l=[b.Free.x0,b.Free.x1,b.Free.x2,b.Free.x3]++[b.Bonded,b.Waiting,b.Burnt]:=⟨_,rfl⟩
 have hlen:l.length=7:=by rw[hl];rfl
 rw[Tr.rg (by show (4+3)*8≤_;omega),Tr.rg (by show 0 < 3;omega),← hl]
 obtain ⟨r,h1,h2⟩:=zhj (F:=fun s:Int×Int×Bank×(List Int)=>(zid s.1 s.2.1 s.2.2.1 s.2.2.2).run) l.length
  (fun i (_:Unit)=>((l.length:Int),(i:Int),b,l)) (fun i _=>True) (fun i _ r=>match r with | .inl x=>x=false∧¬ (∀ y,y∈l.drop i→okN y) | .inr x=>x=b∧∀ y,y∈l.drop i→okN y) (by
   intro t _
   refine ⟨.inr b,?_,rfl,?_⟩
   ·simp only[zid];rw[Tr.rf (by simp),Tr.rl]
   ·rw[List.drop_length];intro y hy;cases hy) (by
   intro i t hi _
   have sa:=zafa (l:=l) (k:=i) hi 0
   simp only[zid,yy4]
   rw[Tr.rt (by simpa using hi),Tr.rg ⟨by omega,by rw[zhk];omega⟩,sa]
   by_cases hx:okN (l.getD i 0)
   ·refine .inl ⟨(),?_,trivial,?_⟩
    ·rw[Tr.rf (zaii hx),Tr.rl,zq (by omega)]
    ·intro r hr
     cases r with
     | inl y=>exact ⟨hr.1,fun h=>hr.2 fun z hz=>h z (List.mem_cons_of_mem _ hz)⟩
     | inr y=>exact ⟨hr.1,fun z hz=>by rcases List.mem_cons.1 hz with rfl | hz;exact hx;exact hr.2 z hz⟩
   ·refine .inr ⟨.inl false,?_,rfl,fun h=>hx (h _ (List.mem_cons_self ..))⟩
    rw[Tr.rt (zal6 hx),Tr.rl]) 0 () (by omega) trivial
 have h1:ztr l.length 0 b l=some r:=h1
 have hall:(∀ y,y∈l.drop 0→okN y)↔(okN b.Free.x0∧okN b.Free.x1∧okN b.Free.x2∧okN b.Free.x3∧okN b.Bonded∧okN b.Waiting∧okN b.Burnt):=by
  rw[hl];simp
 cases r with
 | inl x =>
  rw[Tr.ri h1,Tr.rl,h2.1]
  have h3:=h2.2
  rw[hall] at h3
  rw[decide_eq_false]
  rintro ⟨a0,a1,a2,a3,a4,a5,a6,_⟩
  exact h3 ⟨a0,a1,a2,a3,a4,a5,a6⟩
 | inr x =>
  rw[Tr.rj h1,h2.1,Tr.rb (zafb b),Tr.rl]
  have h3:=h2.2
  rw[hall] at h3
  obtain ⟨a0,a1,a2,a3,a4,a5,a6⟩:=h3
  have hw:i64.wrap (totB b)=totB b:=by
   unfold okN at a0 a1 a2 a3 a4 a5 a6
   unfold totB
   exact zm (by omega) (by omega)
  rw[hw]
  congr 1
  rw[Bool.eq_iff_iff,beq_iff_eq,decide_eq_true_iff]
  exact ⟨fun h=>⟨a0,a1,a2,a3,a4,a5,a6,h⟩,fun h=>h.2.2.2.2.2.2.2⟩
def zkq (b:Bank) (f t n:Int):Bank:=bkA (((plA b).set f ((plA b).get f - n)).set t ((((plA b).set f ((plA b).get f - n)).get t)+n))
def zcb (b:Bank) (f t n:Int):Bank×Int :=
 if ¬ (zis b∧0≤n∧n≤1125899906842624) then (b,2) else if (plA b).get f < n then (b,7) else (zkq b f t n,0)
theorem zadn {b:Bank} (h:zis b) (i:Int):okN ((plA b).get i):=by
 obtain ⟨a0,a1,a2,a3,a4,a5,a6,_⟩:=h
 unfold A7.get plA
 repeat' split
 all_goals assumption
theorem z7h {b:Bank} {d:Int} (h:0≤d∧d < 4):zie b d=some (d,b,d):=by rw[zie,zr8,Tr.rg h,Tr.rl]
theorem zut (b:Bank):zeh b=some b:=by rw[zeh,zsb,Tr.rl]
theorem zrq (b:Bank):zdr b=some b:=by rw[zdr,zqe,Tr.rl]
theorem zado (b:Bank):znr b=some b:=by rw[znr,zts,Tr.rl]
theorem z7i {b:Bank} {d:Int} (h:0≤d∧d < 4):b.Free.get d=(plA b).get d:=by
 unfold A4.get A7.get plA
 repeat' split
 all_goals first | rfl | omega
theorem zal7 {b:Bank} {d n:Int} (hd:0≤d∧d < 4):zif b n d=some ((zcb b d 4 n).1,(zcb b d 4 n).2,d):=by
 rw[zif,zsc,Tr.rb (zlt b)]
 simp only[zzy,Option.isSome_some,yy2]
 rw[Tr.rg (by simp)]
 unfold zcb
 by_cases hg:zis b∧0≤n∧n≤1125899906842624
 ·rw[if_neg (by simpa using hg),Tr.rf (by simpa using hg),Tr.rb (z7h hd)]
  simp only[]
  rw[z7i hd]
  have h1:=zadn hg.1 d
  have h2:=zadn hg.1 4
  unfold okN at h1 h2
  by_cases hl:(plA b).get d < n
  ·rw[if_pos hl,Tr.rt (by simpa using hl),Tr.rl]
  ·rw[if_neg hl,Tr.rf (by simpa using hl),Tr.rb (z7h hd)]
   simp only[]
   rw[z7i hd,zm (x:=(plA b).get d - n) (by omega) (by omega),Tr.rb (zut _),Tr.rl]
   simp only[]
   rw[zm (x:=b.Bonded+n) (by have:(plA b).get 4=b.Bonded:=rfl;omega) (by have:(plA b).get 4=b.Bonded:=rfl;omega)]
   obtain rfl | rfl | rfl | rfl:d=0∨d=1∨d=2∨d=3:=by omega
   all_goals simp[zkq,bkA,plA,A7.get,A7.set,A4.set]
 ·rw[if_pos hg,Tr.rt (by rw[← Bool.not_eq_false];intro k;apply hg;simpa using k),Tr.rl]
theorem zal8 {b:Bank} {d n:Int} (hd:0≤d∧d < 4):zig b n d=some ((zcb b 5 d n).1,(zcb b 5 d n).2,d):=by
 rw[zig,zse,Tr.rb (zlt b)]
 simp only[zzy,Option.isSome_some,yy2]
 rw[Tr.rg (by simp)]
 unfold zcb
 by_cases hg:zis b∧0≤n∧n≤1125899906842624
 ·have h1:=zadn hg.1 d
  have h2:okN b.Waiting:=hg.1.2.2.2.2.2.1
  have h5:(plA b).get 5=b.Waiting:=rfl
  unfold okN at h1 h2
  rw[if_neg (by simpa using hg),Tr.rf (by simpa using hg),Tr.rb (zrq _),h5]
  by_cases hl:b.Waiting < n
  ·rw[if_pos hl,Tr.rt (by simpa using hl),Tr.rl]
  ·rw[if_neg hl,Tr.rf (by simpa using hl),Tr.rb (zrq _),Tr.rb (z7h hd)]
   simp only[]
   rw[Tr.rl,z7i hd,zm (x:=b.Waiting - n) (by omega) (by omega),zm (x:=(plA b).get d+n) (by omega) (by omega)]
   obtain rfl | rfl | rfl | rfl:d=0∨d=1∨d=2∨d=3:=by omega
   all_goals simp[zkq,bkA,plA,A7.get,A7.set,A4.set]
 ·rw[if_pos hg,Tr.rt (by rw[← Bool.not_eq_false];intro k;apply hg;simpa using k),Tr.rl]
theorem zal9 {b:Bank} {n:Int}:zqf b n=some (zcb b 4 5 n):=by
 rw[zqf,zsd,Tr.rb (zlt b)]
 simp only[zzy,Option.isSome_some,yy2]
 rw[Tr.rg (by simp)]
 unfold zcb
 by_cases hg:zis b∧0≤n∧n≤1125899906842624
 ·have h1:okN b.Bonded:=hg.1.2.2.2.2.1
  have h2:okN b.Waiting:=hg.1.2.2.2.2.2.1
  have h5:(plA b).get 4=b.Bonded:=rfl
  unfold okN at h1 h2
  rw[if_neg (by simpa using hg),Tr.rf (by simpa using hg),Tr.rb (zut _),h5]
  by_cases hl:b.Bonded < n
  ·rw[if_pos hl,Tr.rt (by simpa using hl),Tr.rl]
  ·rw[if_neg hl,Tr.rf (by simpa using hl),Tr.rb (zut _),Tr.rb (zrq _),Tr.rl]
   simp only[]
   rw[zm (x:=b.Bonded - n) (by omega) (by omega),zm (x:=b.Waiting+n) (by omega) (by omega)]
   simp[zkq,bkA,plA,A7.get,A7.set,A4.set]
 ·rw[if_pos hg,Tr.rt (by rw[← Bool.not_eq_false];intro k;apply hg;simpa using k),Tr.rl]
theorem zama {b:Bank} {n:Int}:zqg b n=some (zcb b 4 6 n):=by
 rw[zqg,zsf,Tr.rb (zlt b)]
 simp only[zzy,Option.isSome_some,yy2]
 rw[Tr.rg (by simp)]
 unfold zcb
 by_cases hg:zis b∧0≤n∧n≤1125899906842624
 ·have h1:okN b.Bonded:=hg.1.2.2.2.2.1
  have h2:okN b.Burnt:=hg.1.2.2.2.2.2.2.1
  have h5:(plA b).get 4=b.Bonded:=rfl
  unfold okN at h1 h2
  rw[if_neg (by simpa using hg),Tr.rf (by simpa using hg),Tr.rb (zut _),h5]
  by_cases hl:b.Bonded < n
  ·rw[if_pos hl,Tr.rt (by simpa using hl),Tr.rl]
  ·rw[if_neg hl,Tr.rf (by simpa using hl),Tr.rb (zut _),Tr.rb (zado _),Tr.rl]
   simp only[]
   rw[zm (x:=b.Bonded - n) (by omega) (by omega),zm (x:=b.Burnt+n) (by omega) (by omega)]
   simp[zkq,bkA,plA,A7.get,A7.set,A4.set]
 ·rw[if_pos hg,Tr.rt (by rw[← Bool.not_eq_false];intro k;apply hg;simpa using k),Tr.rl]
theorem zamb {b:Bank} {n:Int}:zqh b n=some (zcb b 5 6 n):=by
 rw[zqh,zsg,Tr.rb (zlt b)]
 simp only[zzy,Option.isSome_some,yy2]
 rw[Tr.rg (by simp)]
 unfold zcb
 by_cases hg:zis b∧0≤n∧n≤1125899906842624
 ·have h1:okN b.Waiting:=hg.1.2.2.2.2.2.1
  have h2:okN b.Burnt:=hg.1.2.2.2.2.2.2.1
  have h5:(plA b).get 5=b.Waiting:=rfl
  unfold okN at h1 h2
  rw[if_neg (by simpa using hg),Tr.rf (by simpa using hg),Tr.rb (zrq _),h5]
  by_cases hl:b.Waiting < n
  ·rw[if_pos hl,Tr.rt (by simpa using hl),Tr.rl]
  ·rw[if_neg hl,Tr.rf (by simpa using hl),Tr.rb (zrq _),Tr.rb (zado _),Tr.rl]
   simp only[]
   rw[zm (x:=b.Waiting - n) (by omega) (by omega),zm (x:=b.Burnt+n) (by omega) (by omega)]
   simp[zkq,bkA,plA,A7.get,A7.set,A4.set]
 ·rw[if_pos hg,Tr.rt (by rw[← Bool.not_eq_false];intro k;apply hg;simpa using k),Tr.rl]
def zrr (b:Bank) (d n:Int):Bank×Int:=if d < 0∨3 < d then (b,4) else zcb b d 4 n
def z7j (b:Bank) (d n:Int):Bank×Int:=if d < 0∨3 < d then (b,4) else zcb b 5 d n
def zabt (b:Bank) (x y:Int):Bank×Int :=
 if (zcb b 4 6 x).2≠0 then (b,(zcb b 4 6 x).2) else if (zcb (zcb b 4 6 x).1 5 6 y).2≠0 then (b,(zcb (zcb b 4 6 x).1 5 6 y).2) else ((zcb (zcb b 4 6 x).1 5 6 y).1,0)
theorem zaij {b:Bank} {d n:Int}:zpp b d n=some (zrr b d n):=by
 rw[zpp,zwy,Tr.rb (v:=decide (0≤d∧d < 4)) (by rw[zhp,ziw,Tr.rl,Bool.decide_and])]
 unfold zrr
 by_cases hd:0≤d∧d < 4
 ·have e1:zb2 d=some d:=by rw[zb2,zsa,Tr.rl]
  rw[if_neg (by omega),Tr.rf (by simpa using hd)]
  simp only[e1,zal7 hd,Option.isSome_some,yy2]
  rw[Tr.rg (by trivial),Tr.rg (by trivial),Tr.rl]
 ·rw[if_pos (by omega),Tr.rt (by simp;omega),Tr.rl]
theorem zarc {b:Bank} {d n:Int}:zwz b d n=some (z7j b d n):=by
 rw[zwz,zzo,Tr.rb (v:=decide (0≤d∧d < 4)) (by rw[zhp,ziw,Tr.rl,Bool.decide_and])]
 unfold z7j
 by_cases hd:0≤d∧d < 4
 ·have e1:zb2 d=some d:=by rw[zb2,zsa,Tr.rl]
  rw[if_neg (by omega),Tr.rf (by simpa using hd)]
  simp only[e1,zal8 hd,Option.isSome_some,yy2]
  rw[Tr.rg (by trivial),Tr.rg (by trivial),Tr.rl]
 ·rw[if_pos (by omega),Tr.rt (by simp;omega),Tr.rl]
theorem z9k {b:Bank} {n:Int}:zih b n=some (zcb b 4 5 n):=by
 rw[zih,zsh,Tr.rb zal9,Tr.rl]
theorem zard {b:Bank} {x y:Int}:ztu b x y=some (zabt b x y):=by
 rw[ztu,zw0,Tr.rb zama]
 unfold zabt
 by_cases h:(zcb b 4 6 x).2=0
 ·rw[if_neg (by simpa using h),Tr.rf (by simpa using h),Tr.rb zamb]
  by_cases h2:(zcb (zcb b 4 6 x).1 5 6 y).2=0
  ·rw[if_neg (by simpa using h2),Tr.rf (by simpa using h2),Tr.rl]
  ·rw[if_pos h2,Tr.rt (by simpa using h2),Tr.rl]
 ·rw[if_pos h,Tr.rt (by simpa using h),Tr.rl]
def newB:Bank:=⟨⟨100000,100000,100000,100000⟩,0,0,0⟩
theorem zafc:zwu=some newB:=by
 have key:zqb 0 (⟨(⟨0,0,0,0⟩:(A4 Int)),0,0,0⟩:Bank) (⟨(⟨0,0,0,0⟩:(A4 Int)),0,0,0⟩:Bank)=some (⟨⟨0,0,0,0⟩,0,0,0⟩,newB):=by
  rw[zqb]
  refine (zir (s':=(1,⟨⟨0,0,0,0⟩,0,0,0⟩,⟨⟨100000,0,0,0⟩,0,0,0⟩)) ?_).trans ((zir (s':=(2,⟨⟨0,0,0,0⟩,0,0,0⟩,⟨⟨100000,100000,0,0⟩,0,0,0⟩)) ?_).trans ((zir (s':=(3,⟨⟨0,0,0,0⟩,0,0,0⟩,⟨⟨100000,100000,100000,0⟩,0,0,0⟩)) ?_).trans ((zir (s':=(4,⟨⟨0,0,0,0⟩,0,0,0⟩,newB)) ?_).trans (zmo ?_))))
  ·simp only[zfp];rw[Tr.rt (by rfl),Tr.rg (by omega),Tr.rl];rfl
  ·simp only[zfp];rw[Tr.rt (by rfl),Tr.rg (by omega),Tr.rl];rfl
  ·simp only[zfp];rw[Tr.rt (by rfl),Tr.rg (by omega),Tr.rl];rfl
  ·simp only[zfp];rw[Tr.rt (by rfl),Tr.rg (by omega),Tr.rl];rfl
  ·simp only[zfp];rw[Tr.rf (by rfl),Tr.rl]
 rw[zwu,zzm,Tr.rb key,Tr.rl]
theorem zaik {b:Bank} {f t n:Int} (h:(zcb b f t n).2≠0):(zcb b f t n).1=b:=by
 unfold zcb at h ⊢
 split
 ·rfl
 ·split
  ·rfl
  ·rename_i h1 h2
   rw[if_neg h1,if_neg h2] at h
   exact absurd rfl h
theorem z7k {b:Bank} {f t n:Int} (h:(zcb b f t n).2=0):zis b∧0≤n∧n≤1125899906842624∧n≤(plA b).get f∧zcb b f t n=(zkq b f t n,0):=by
 unfold zcb at h ⊢
 by_cases h1:zis b∧0≤n∧n≤1125899906842624
 ·rw[if_neg (by simpa using h1)] at h ⊢
  by_cases h2:(plA b).get f < n
  ·rw[if_pos h2] at h;cases h
  ·rw[if_neg h2]
   exact ⟨h1.1,h1.2.1,h1.2.2,by omega,rfl⟩
 ·rw[if_pos h1] at h;cases h
def road (f t:Int):Prop:=((f=0∨f=1∨f=2∨f=3)∧t=4)∨(f=4∧t=5)∨(f=5∧(t=0∨t=1∨t=2∨t=3))∨(f=4∧t=6)∨(f=5∧t=6)
theorem zo8 {b:Bank} {f t n:Int} (hr:road f t) (hg:zis b) (h0:0≤n) (h1:n≤(plA b).get f):zis (zkq b f t n)∧b.Burnt≤(zkq b f t n).Burnt:=by
 obtain ⟨a0,a1,a2,a3,a4,a5,a6,a7⟩:=hg
 unfold okN at a0 a1 a2 a3 a4 a5 a6
 unfold totB at a7
 unfold road at hr
 rcases hr with ⟨rfl | rfl | rfl | rfl,rfl⟩ | ⟨rfl,rfl⟩ | ⟨rfl,rfl | rfl | rfl | rfl⟩ | ⟨rfl,rfl⟩ | ⟨rfl,rfl⟩
 all_goals
  simp[plA,A7.get] at h1
  simp[zis,okN,totB,zkq,bkA,plA,A7.get,A7.set]
  omega
def kept (b:Bank) (v:Bank×Int):Prop:=(v.2≠0∧v.1=b)∨(v.2=0∧zis b∧zis v.1∧b.Burnt≤v.1.Burnt)
theorem zail {b:Bank} {f t n:Int} (hr:road f t):kept b (zcb b f t n):=by
 by_cases h:(zcb b f t n).2=0
 ·obtain ⟨h1,h2,h3,h4,h5⟩:=z7k h
  obtain ⟨k1,k2⟩:=zo8 hr h1 h2 h4
  rw[h5]
  exact .inr ⟨rfl,h1,k1,k2⟩
 ·exact .inl ⟨h,zaik h⟩
theorem zaim {b:Bank} {d n:Int}:kept b (zrr b d n):=by
 unfold zrr
 split
 ·exact .inl ⟨by simp,rfl⟩
 ·exact zail (.inl ⟨by omega,rfl⟩)
theorem z7l {b:Bank} {f t n:Int} (h1:zis b) (h2:0≤n) (h3:n≤1125899906842624) (h4:n≤(plA b).get f):zcb b f t n=(zkq b f t n,0):=by
 unfold zcb
 rw[if_neg (by simp;exact ⟨h1,h2,h3⟩),if_neg (by omega)]
theorem z5k {σ τ β γ:Type} {F:σ→Option (σ⊕(β⊕γ))} (n:Nat) (mk:Nat→τ→σ) (g:τ→Nat→τ) (p:Nat→Prop) (bad:β) (out:τ→γ)
  (hend:∀ t,F (mk n t)=some (.inr (.inr (out t)))) (hok:∀ i t,i < n→p i→F (mk i t)=some (.inl (mk (i+1) (g t i))))
  (hbad:∀ i t,i < n→¬ p i→F (mk i t)=some (.inr (.inl bad))) (t:τ) :
  ((∀ i,i < n→p i)∧zcv F (mk 0 t)=some (.inr (out ((List.range n).foldl g t))))∨((¬ ∀ i,i < n→p i)∧zcv F (mk 0 t)=some (.inl bad)):=by
 obtain ⟨r,h1,h2⟩:=zhj (F:=F) n mk (fun _ _=>True)
  (fun i t r=>((∀ j,i≤j→j < n→p j)∧r=.inr (out (((List.range n).drop i).foldl g t)))∨((¬ ∀ j,i≤j→j < n→p j)∧r=.inl bad)) (by
   intro t _
   refine ⟨_,hend t,.inl ⟨fun j h1 h2=>by omega,?_⟩⟩
   rw[List.drop_eq_nil_of_le (by rw[List.length_range];omega)];rfl) (by
   intro i t hi _
   have hs:=zbj (l:=List.range n) (k:=i) (by rw[List.length_range];exact hi) 0
   rw[zu1 hi] at hs
   by_cases hp:p i
   ·refine .inl ⟨g t i,hok i t hi hp,trivial,fun r hr=>?_⟩
    rcases hr with ⟨h1,h2⟩ | ⟨h1,h2⟩
    ·refine .inl ⟨fun j h3 h4=>?_,?_⟩
     ·by_cases he:j=i
      ·rw[he];exact hp
      ·exact h1 j (by omega) h4
     ·rw[h2,hs,List.foldl_cons]
    ·exact .inr ⟨fun h=>h1 fun j h3 h4=>h j (by omega) h4,h2⟩
   ·exact .inr ⟨_,hbad i t hi hp,.inr ⟨fun h=>hp (h i (Nat.le_refl _) hi),rfl⟩⟩) 0 t (Nat.zero_le _) trivial
 rcases h2 with ⟨h2,h3⟩ | ⟨h2,h3⟩
 ·exact .inl ⟨fun i hi=>h2 i (Nat.zero_le _) hi,by rw[h1,h3,List.drop_zero]⟩
 ·exact .inr ⟨fun h=>h2 fun j _ h4=>h j h4,by rw[h1,h3]⟩
theorem zbc (l:List Wait):Sl.len (.waits l)=l.length:=rfl
abbrev inA (n:Int):Prop:=0≤n∧n≤1125899906842624
abbrev shr (s:Stake) (d v:Int):Int:=A46.get s.Shares d v
def z4p (s:Stake) (v:Int):Int:=shr s 0 v+shr s 1 v+shr s 2 v+shr s 3 v
def okV (T S L:Int) (J D:Bool):Prop:=inA T∧inA S∧inA L∧¬ (S=0∧0 < T)∧¬ (D=true∧J=false)
instance (T S L:Int) (J D:Bool):Decidable (okV T S L J D):=inferInstanceAs (Decidable (_∧_))
def z7m (s:Stake) (v:Int):Prop :=
 okV (s.Validators.Tokens.get v) (s.Validators.Shares.get v) (s.Validators.Lost.get v) (s.Validators.Jailed.get v) (s.Validators.Dead.get v)∧(∀ d:Nat,d < 4→inA (shr s d v))∧z4p s v=s.Validators.Shares.get v
instance (s:Stake) (v:Int):Decidable (z7m s v):=inferInstanceAs (Decidable (_∧_))
def zafd (next last:Int) (w:Wait):Prop:=last < w.Number∧w.Number < next∧0≤w.D∧w.D < 4∧0≤w.V∧w.V < 6∧inA w.Amount∧0≤w.Height∧0≤w.Due
instance (n l:Int) (w:Wait):Decidable (zafd n l w):=inferInstanceAs (Decidable (_∧_))
def zit (next:Int):Int→List Wait→Prop
 | _,[]=>True
 | last,w::l=>zafd next last w∧zit next w.Number l
def zaw5 (next:Int):(last:Int)→(l:List Wait)→Decidable (zit next last l)
 | _,[]=>isTrue trivial
 | last,w::l=>@instDecidableAnd _ _ (inferInstanceAs (Decidable (zafd next last w))) (zaw5 next w.Number l)
instance (n p:Int) (l:List Wait):Decidable (zit n p l):=zaw5 n p l
def zq6:List Wait→Int
 | []=>0
 | w::l=>w.Amount+zq6 l
def sum6 (a:A6 Int):Int:=a.x0+a.x1+a.x2+a.x3+a.x4+a.x5
def GoodS (s:Stake):Prop:=zis s.Bank∧(1≤s.Next∧s.Next≤1125899906842624∧s.Waits.length≤60)∧(∀ v:Nat,v < 6→z7m s v)∧zit s.Next 0 s.Waits ∧
 sum6 s.Validators.Tokens=s.Bank.Bonded∧zq6 s.Waits=s.Bank.Waiting∧sum6 s.Validators.Lost=s.Bank.Burnt
instance (s:Stake):Decidable (GoodS s):=inferInstanceAs (Decidable (_∧_))
def vsA (s:Stake):A6 zr:=⟨⟨s.Validators.Tokens.x0,s.Validators.Shares.x0,s.Validators.Lost.x0,s.Validators.Jailed.x0,s.Validators.Dead.x0⟩,⟨s.Validators.Tokens.x1,s.Validators.Shares.x1,s.Validators.Lost.x1,s.Validators.Jailed.x1,s.Validators.Dead.x1⟩,
 ⟨s.Validators.Tokens.x2,s.Validators.Shares.x2,s.Validators.Lost.x2,s.Validators.Jailed.x2,s.Validators.Dead.x2⟩,⟨s.Validators.Tokens.x3,s.Validators.Shares.x3,s.Validators.Lost.x3,s.Validators.Jailed.x3,s.Validators.Dead.x3⟩,
 ⟨s.Validators.Tokens.x4,s.Validators.Shares.x4,s.Validators.Lost.x4,s.Validators.Jailed.x4,s.Validators.Dead.x4⟩,⟨s.Validators.Tokens.x5,s.Validators.Shares.x5,s.Validators.Lost.x5,s.Validators.Jailed.x5,s.Validators.Dead.x5⟩⟩
theorem zare (s:Stake):(⟨(vsA s).x0.Tokens,(vsA s).x1.Tokens,(vsA s).x2.Tokens,(vsA s).x3.Tokens,(vsA s).x4.Tokens,(vsA s).x5.Tokens⟩:A6 Int)=s.Validators.Tokens:=rfl
theorem zaw6 (s:Stake):(⟨(vsA s).x0.Shares,(vsA s).x1.Shares,(vsA s).x2.Shares,(vsA s).x3.Shares,(vsA s).x4.Shares,(vsA s).x5.Shares⟩:A6 Int)=s.Validators.Shares:=rfl
theorem zaw7 (s:Stake):(⟨(vsA s).x0.Lost,(vsA s).x1.Lost,(vsA s).x2.Lost,(vsA s).x3.Lost,(vsA s).x4.Lost,(vsA s).x5.Lost⟩:A6 Int)=s.Validators.Lost:=rfl
theorem zarf (s:Stake):(⟨(vsA s).x0.Jailed,(vsA s).x1.Jailed,(vsA s).x2.Jailed,(vsA s).x3.Jailed,(vsA s).x4.Jailed,(vsA s).x5.Jailed⟩:A6 Bool)=s.Validators.Jailed:=rfl
theorem zaw8 (s:Stake):(⟨(vsA s).x0.Dead,(vsA s).x1.Dead,(vsA s).x2.Dead,(vsA s).x3.Dead,(vsA s).x4.Dead,(vsA s).x5.Dead⟩:A6 Bool)=s.Validators.Dead:=rfl
theorem zamc {s:Stake} {v:Int} (h:∀ d:Nat,d < 4→inA (shr s d v)):(List.range 4).foldl (fun t (d:Nat)=>i64.wrap (t+shr s d v)) 0=z4p s v:=by
 show i64.wrap (i64.wrap (i64.wrap (i64.wrap (0+shr s 0 v)+shr s 1 v)+shr s 2 v)+shr s 3 v)=_
 have h0:inA (shr s 0 v):=h 0 (by omega)
 have h1:inA (shr s 1 v):=h 1 (by omega)
 have h2:inA (shr s 2 v):=h 2 (by omega)
 have h3:inA (shr s 3 v):=h 3 (by omega)
 unfold z4p
 simp only[IntKind.wrap_i64]
 omega
theorem zadp (s:Stake) {v:Nat} (hv:v < 6) (x0 x1 x2 x6:Int) (a:A6 zr) (x9:zr) :
  ((∀ d:Nat,d < 4→inA (shr s d v))∧zmt x0 x1 x2 v 0 a x6 0 s x9=some (.inr (x0,x1,x2,z4p s v,a,x6,s,x9))) ∨
  ((¬ ∀ d:Nat,d < 4→inA (shr s d v))∧zmt x0 x1 x2 v 0 a x6 0 s x9=some (.inl false)):=by
 have:=z5k (F:=fun s:Int×Int×Int×Int×Int×(A6 zr)×Int×Int×Stake×zr=>(ze1 s.1 s.2.1 s.2.2.1 s.2.2.2.1 s.2.2.2.2.1 s.2.2.2.2.2.1 s.2.2.2.2.2.2.1 s.2.2.2.2.2.2.2.1 s.2.2.2.2.2.2.2.2.1 s.2.2.2.2.2.2.2.2.2).run) 4
  (fun i t=>(x0,x1,x2,(v:Int),t,a,x6,(i:Int),s,x9)) (fun t (d:Nat)=>i64.wrap (t+shr s d v)) (fun d=>inA (shr s d v)) false (fun t=>(x0,x1,x2,t,a,x6,s,x9)) (by
   intro t
   simp only[ze1];rw[Tr.rf (by rfl),Tr.rl]) (by
   intro i t hi hp
   simp only[ze1]
   rw[Tr.rt (by simp;omega),Tr.rg (by omega),Tr.rg (by omega),Tr.rb (zzy _),Tr.rf (by simpa using hp),Tr.rg (by omega),Tr.rg (by omega),Tr.rl,zq (by omega)]) (by
   intro i t hi hp
   simp only[ze1]
   rw[Tr.rt (by simp;omega),Tr.rg (by omega),Tr.rg (by omega),Tr.rb (zzy _),Tr.rt (by rw[Bool.not_eq_true',yy8];exact hp),Tr.rl]) 0
 rcases this with ⟨h1,h2⟩ | ⟨h1,h2⟩
 ·rw[zamc h1] at h2;exact .inl ⟨h1,h2⟩
 ·exact .inr ⟨h1,h2⟩
theorem zain (T S L:Int) (J D:Bool):(((((!(decide (0≤T∧T≤1125899906842624)))||(!(decide (0≤S∧S≤1125899906842624))))||(!(decide (0≤L∧L≤1125899906842624))))||((S==0)&&(decide (T > 0))))||(D&&(!J))) = !decide (okV T S L J D):=by
 rw[Bool.eq_iff_iff]
 unfold okV inA
 cases J<;>cases D<;>simp<;>omega
theorem zamd {f g:Nat→Int} (hf:∀ v:Nat,v < 6→inA (f v)) (hg:∀ v:Nat,v < 6→inA (g v)) :
  (List.range 6).foldl (fun (t:Int×Int) (v:Nat)=>(i64.wrap (t.1+f v),i64.wrap (t.2+g v))) (0,0)=(f 0+f 1+f 2+f 3+f 4+f 5,g 0+g 1+g 2+g 3+g 4+g 5):=by
 show (i64.wrap (i64.wrap (i64.wrap (i64.wrap (i64.wrap (i64.wrap (0+f 0)+f 1)+f 2)+f 3)+f 4)+f 5),i64.wrap (i64.wrap (i64.wrap (i64.wrap (i64.wrap (i64.wrap (0+g 0)+g 1)+g 2)+g 3)+g 4)+g 5))=_
 have e:∀ f:Nat→Int,(∀ v:Nat,v < 6→inA (f v))→i64.wrap (i64.wrap (i64.wrap (i64.wrap (i64.wrap (i64.wrap (0+f 0)+f 1)+f 2)+f 3)+f 4)+f 5)=f 0+f 1+f 2+f 3+f 4+f 5:=by
  intro f hf
  have h0:=hf 0 (by omega);have h1:=hf 1 (by omega);have h2:=hf 2 (by omega);have h3:=hf 3 (by omega);have h4:=hf 4 (by omega);have h5:=hf 5 (by omega)
  unfold inA at h0 h1 h2 h3 h4 h5
  rw[zm (x:=0+f 0) (by omega) (by omega),zm (x:=_+f 1) (by omega) (by omega),zm (x:=_+f 2) (by omega) (by omega),zm (x:=_+f 3) (by omega) (by omega),zm (x:=_+f 4) (by omega) (by omega),zm (x:=_+f 5) (by omega) (by omega)]
  omega
 rw[e f hf,e g hg]
theorem zame (s:Stake) :
  ((∀ v:Nat,v < 6→z7m s v)∧zmu 0 0 0 (vsA s) 0 s=some (.inr (sum6 s.Validators.Tokens,0,sum6 s.Validators.Lost,s)))∨((¬ ∀ v:Nat,v < 6→z7m s v)∧zmu 0 0 0 (vsA s) 0 s=some (.inl false)):=by
 have:=z5k (F:=fun s:Int×Int×Int×(A6 zr)×Int×Stake=>(ze2 s.1 s.2.1 s.2.2.1 s.2.2.2.1 s.2.2.2.2.1 s.2.2.2.2.2).run) 6
  (fun i (t:Int×Int)=>(t.1,0,t.2,vsA s,(i:Int),s)) (fun t (v:Nat)=>(i64.wrap (t.1+s.Validators.Tokens.get v),i64.wrap (t.2+s.Validators.Lost.get v))) (fun v=>z7m s v) false (fun t=>(t.1,0,t.2,s)) (by
   intro t
   simp only[ze2];rw[Tr.rf (by rfl),Tr.rl]) (by
   rintro i ⟨t1,t2⟩ hi ⟨hp1,hp2,hp3⟩
   simp only[ze2]
   rw[zare,zaw6,zaw7,zarf,zaw8,Tr.rt (by simp;omega),Tr.rg (by omega),Tr.rb (zzy _)]
   simp only[zzy,Option.isSome_some,yy2]
   rw[Tr.rg (by simp),Tr.rg (by simp),Tr.rf (by rw[zain];simpa using hp1)]
   rcases zadp s hi t1 0 t2 i (vsA s) (⟨s.Validators.Tokens.get i,s.Validators.Shares.get i,s.Validators.Lost.get i,s.Validators.Jailed.get i,s.Validators.Dead.get i⟩:zr) with ⟨k1,k2⟩ | ⟨k1,k2⟩
   ·rw[Tr.rj k2]
    simp only[]
    rw[Tr.rf (by simpa using hp3),Tr.rl,zq (by omega)]
   ·exact absurd hp2 k1) (by
   rintro i ⟨t1,t2⟩ hi hp
   simp only[ze2]
   rw[zare,zaw6,zaw7,zarf,zaw8,Tr.rt (by simp;omega),Tr.rg (by omega),Tr.rb (zzy _)]
   simp only[zzy,Option.isSome_some,yy2]
   rw[Tr.rg (by simp),Tr.rg (by simp)]
   by_cases hp1:okV (s.Validators.Tokens.get i) (s.Validators.Shares.get i) (s.Validators.Lost.get i) (s.Validators.Jailed.get i) (s.Validators.Dead.get i)
   ·rw[Tr.rf (by rw[zain];simpa using hp1)]
    rcases zadp s hi t1 0 t2 i (vsA s) (⟨s.Validators.Tokens.get i,s.Validators.Shares.get i,s.Validators.Lost.get i,s.Validators.Jailed.get i,s.Validators.Dead.get i⟩:zr) with ⟨k1,k2⟩ | ⟨k1,k2⟩
    ·rw[Tr.rj k2]
     simp only[]
     rw[Tr.rt (by simpa using fun h=>hp ⟨hp1,k1,h⟩),Tr.rl]
    ·rw[Tr.ri k2,Tr.rl]
   ·rw[Tr.rt (by rw[zain];simpa using hp1),Tr.rl]) (0,0)
 rcases this with ⟨h1,h2⟩ | ⟨h1,h2⟩
 ·rw[zamd (f:=fun v=>s.Validators.Tokens.get v) (g:=fun v=>s.Validators.Lost.get v) (fun v hv=>(h1 v hv).1.1) (fun v hv=>(h1 v hv).1.2.2.1)] at h2
  exact .inl ⟨h1,h2⟩
 ·exact .inr ⟨h1,h2⟩
def z04 (l:List Wait) (i:Nat):Int:=if i=0 then 0 else (l.getD (i - 1) default).Number
theorem zafe (l:List Wait) (i:Nat):z04 l (i+1)=(l.getD i default).Number:=by unfold z04;rw[if_neg (by omega),Nat.add_sub_cancel]
theorem zamf {s:Stake} (hl:s.Waits.length≤60) (x0 x2:Int) :
  (zit s.Next 0 s.Waits∧zix x0 0 x2 s.Waits s.Waits.length 0 s=some (.inr (x0,zq6 s.Waits,x2,s)))∨(¬ zit s.Next 0 s.Waits∧zix x0 0 x2 s.Waits s.Waits.length 0 s=some (.inl false)):=by
 obtain ⟨r,h1,h2⟩:=zhj (F:=fun s:Int×Int×Int×(List Wait)×Int×Int×Stake=>(zg1 s.1 s.2.1 s.2.2.1 s.2.2.2.1 s.2.2.2.2.1 s.2.2.2.2.2.1 s.2.2.2.2.2.2).run) s.Waits.length
  (fun i t=>(x0,t,x2,s.Waits,(s.Waits.length:Int),(i:Int),s)) (fun i t=>0≤t∧t≤i*1125899906842624∧(i=0∨1≤z04 s.Waits i))
  (fun i t r=>(zit s.Next (z04 s.Waits i) (s.Waits.drop i)∧r=.inr (x0,t+zq6 (s.Waits.drop i),x2,s))∨(¬ zit s.Next (z04 s.Waits i) (s.Waits.drop i)∧r=.inl false)) (by
   intro t _
   refine ⟨.inr (x0,t,x2,s),?_,.inl ⟨?_,?_⟩⟩
   ·simp only[zg1];rw[Tr.rf (by simp),Tr.rl]
   ·rw[List.drop_length];trivial
   ·rw[List.drop_length];simp only[zq6,Int.add_zero]) (by
   rintro i t hi ⟨ht0,ht1,ht2⟩
   have hs:=zbj (l:=s.Waits) (k:=i) hi default
   have hn:(i64.wrap ((i:Int) - 1)).toNat=i - 1:=by rw[zm (by omega) (by omega)];omega
   have hN:=zafe s.Waits i
   simp only[zg1,zzy,Option.isSome_some,yy2]
   rw[yy4,hn]
   obtain ⟨w,hw⟩:∃ w,w=s.Waits.getD i default:=⟨_,rfl⟩
   rw[← hw] at hs hN ⊢
   have hc:((((((((((decide (w.Number < 1))||(decide (w.Number≥s.Next)))||((decide ((i:Int) > 0))&&(decide ((s.Waits.getD (i - 1) default).Number≥w.Number))))||(decide (w.D < 0)))||(decide (w.D≥4)))||(decide (w.V < 0)))||(decide (w.V≥6)))||(!(decide (0≤w.Amount∧w.Amount≤1125899906842624))))||(decide (w.Height < 0)))||(decide (w.Due < 0))) = !decide (zafd s.Next (z04 s.Waits i) w):=by
    rw[Bool.eq_iff_iff]
    simp only[Bool.or_eq_true,yy7,Bool.not_eq_true',decide_eq_true_eq,yy8]
    unfold zafd inA
    by_cases h0:i=0
    ·have hq:z04 s.Waits i=0:=by unfold z04;rw[if_pos h0]
     rw[hq];constructor<;>intro h<;>omega
    ·have hq:z04 s.Waits i=(s.Waits.getD (i - 1) default).Number:=by unfold z04;rw[if_neg h0]
     rw[hq] at ht2 ⊢;constructor<;>intro h<;>omega
   rw[Tr.rt (by simpa using hi),Tr.rg ⟨by omega,by rw[zbc];omega⟩,Tr.rg (by
    intro h _
    rw[decide_eq_true_eq] at h
    rw[zm (by omega) (by omega),zbc]
    exact ⟨by omega,trivial⟩),Tr.rg (by simp),hs]
   by_cases hg:zafd s.Next (z04 s.Waits i) w
   ·have h7:=hg.2.2.2.2.2.2.1
    have h8:=hg.1
    unfold inA at h7
    refine .inl ⟨t+w.Amount,?_,⟨by omega,by omega,.inr (by rw[hN];unfold z04 at h8 ht2;omega)⟩,?_⟩
    ·rw[Tr.rf (by rw[hc];simpa using hg),Tr.rl,zq (by omega),zm (by omega) (by omega)]
    ·intro r hr
     rw[hN] at hr
     simp only[zit,zq6]
     rcases hr with ⟨k1,k2⟩ | ⟨k1,k2⟩
     ·exact .inl ⟨⟨hg,k1⟩,by rw[k2,Int.add_assoc]⟩
     ·exact .inr ⟨fun h=>k1 h.2,k2⟩
   ·refine .inr ⟨.inl false,?_,.inr ⟨fun h=>hg h.1,rfl⟩⟩
    rw[Tr.rt (by rw[hc];simpa using hg),Tr.rl]) 0 0 (by omega) ⟨by omega,by omega,.inl rfl⟩
 have h1:zix x0 0 x2 s.Waits s.Waits.length 0 s=some r:=h1
 rw[h1]
 simp only[List.drop_zero,Int.zero_add] at h2
 rcases h2 with ⟨k1,k2⟩ | ⟨k1,k2⟩
 ·exact .inl ⟨k1,by rw[k2]⟩
 ·exact .inr ⟨k1,by rw[k2]⟩
theorem zuu (s:Stake):zj8 s=some (decide (GoodS s)):=by
 rw[zj8,zt1,Tr.rb (zlt _)]
 by_cases h0:zis s.Bank∧1≤s.Next∧s.Next≤1125899906842624∧s.Waits.length≤60
 ·obtain ⟨b0,b1,b2,b3⟩:=h0
  rw[Tr.rf (by simp[b0];omega)]
  rcases zame s with ⟨k1,k2⟩ | ⟨k1,k2⟩
  ·refine (Tr.rj k2).trans ?_
   simp only[]
   rcases zamf b3 (sum6 s.Validators.Tokens) (sum6 s.Validators.Lost) with ⟨l1,l2⟩ | ⟨l1,l2⟩
   ·rw[Tr.rj l2,Tr.rl]
    congr 1
    rw[Bool.eq_iff_iff]
    simp only[yy7,beq_iff_eq,decide_eq_true_eq]
    exact ⟨fun h=>⟨b0,⟨b1,b2,b3⟩,k1,l1,h.1.1,h.1.2,h.2⟩,fun h=>⟨⟨h.2.2.2.2.1,h.2.2.2.2.2.1⟩,h.2.2.2.2.2.2⟩⟩
   ·rw[Tr.ri l2,Tr.rl,decide_eq_false (fun h=>l1 h.2.2.2.1)]
  ·refine (Tr.ri k2).trans ?_
   rw[Tr.rl,decide_eq_false (fun h=>k1 h.2.2.1)]
 ·rw[Tr.rt (by
   by_cases b0:zis s.Bank
   ·have h1:¬ (1≤s.Next∧s.Next≤1125899906842624∧s.Waits.length≤60):=fun h=>h0 ⟨b0,h⟩
    simp only[b0,Bool.or_eq_true,Bool.not_eq_true',decide_eq_true_eq,yy8,not_true,false_or]
    omega
   ·simp[b0]),Tr.rl,decide_eq_false (fun h=>h0 ⟨h.1,h.2.1⟩)]
def zfk (s:Stake) (d v:Int):Int:=if ¬ GoodS s then 2 else if d < 0∨4≤d∨v < 0∨6≤v then 4 else 0
theorem zu5 (s:Stake) (d v:Int):zdm s d v=some (zfk s d v):=by
 rw[zdm,zsn,Tr.rb (zuu s)]
 unfold zfk
 by_cases h:GoodS s
 ·rw[if_neg (by simpa using h),Tr.rf (by simpa using h)]
  by_cases h2:d < 0∨4≤d∨v < 0∨6≤v
  ·rw[if_pos h2,Tr.rt (by simpa[or_assoc] using h2),Tr.rl]
  ·rw[if_neg h2,Tr.rf (by simp only[Bool.or_eq_false_iff,yy8];omega),Tr.rl]
 ·rw[if_pos h,Tr.rt (by simpa using h),Tr.rl]
theorem GoodS.at {s:Stake} (h:GoodS s) {v:Int} (hv:0≤v∧v < 6):z7m s v:=by
 have:=h.2.2.1 v.toNat (by omega)
 rwa [show ((v.toNat:Nat):Int)=v by omega] at this
theorem GoodS.shr {s:Stake} (h:GoodS s) {d v:Int} (hd:0≤d∧d < 4) (hv:0≤v∧v < 6):0≤A46.get s.Shares d v∧A46.get s.Shares d v≤1125899906842624:=by
 have:=(h.at hv).2.1 d.toNat (by omega)
 rwa [show ((d.toNat:Nat):Int)=d by omega] at this
theorem zl4 {s:Stake} {d v:Int} (h:zfk s d v=0):GoodS s∧(0≤d∧d < 4)∧(0≤v∧v < 6):=by
 unfold zfk at h
 by_cases hg:GoodS s
 ·rw[if_neg (by simpa using hg)] at h
  by_cases h2:d < 0∨4≤d∨v < 0∨6≤v
  ·rw[if_pos h2] at h;cases h
  ·exact ⟨hg,by omega,by omega⟩
 ·rw[if_pos hg] at h;cases h
def addS (s:Stake) (b:Bank) (d v n k:Int):Stake :=
 ⟨b,{ s.Validators with Tokens:=s.Validators.Tokens.set v (s.Validators.Tokens.get v+n),Shares:=s.Validators.Shares.set v (s.Validators.Shares.get v+k) },A46.set s.Shares d v (A46.get s.Shares d v+k),s.Waits,s.Next⟩
def zdx (s:Stake) (v n:Int):Int×Int:=if s.Validators.Shares.get v=0 then (n,0) else zls n (s.Validators.Shares.get v) (s.Validators.Tokens.get v)
def zdh (s:Stake) (d v n:Int):Stake×Int :=
 if zfk s d v≠0 then (s,zfk s d v) else if s.Validators.Dead.get v=true then (s,15) else if n < 1∨1125899906842624 < n then (s,2)
 else if s.Validators.Shares.get v≠0∧s.Validators.Tokens.get v=0 then (s,8) else if (zdx s v n).2≠0∨1125899906842624 < s.Validators.Shares.get v+(zdx s v n).1 then (s,6)
 else if (zdx s v n).1 < 1 then (s,8) else if (zrr s.Bank d n).2≠0 then (s,(zrr s.Bank d n).2) else (addS s (zrr s.Bank d n).1 d v n (zdx s v n).1,0)
theorem z5l (a b c:Int):0≤(zls a b c).1∧(zls a b c).1≤1125899906842624:=by
 unfold zls
 by_cases h:a < 0∨b < 0∨c < 1
 ·rw[if_pos h];simp
 ·rw[if_neg h]
  by_cases h2:1125899906842624 < a*b / c
  ·rw[if_pos h2];simp
  ·rw[if_neg h2]
   have h3:0≤a*b:=Int.mul_nonneg (by omega) (by omega)
   exact ⟨Int.ediv_nonneg h3 (by omega),by show a*b / c≤_;omega⟩
theorem zabv {s:Stake} {d v n:Int} (hn:n≤9223372036854775807):zk7 s d v n=some (zdh s d v n):=by
 rw[zk7,zmv,Tr.rb (zu5 _ _ _)]
 unfold zdh
 by_cases h0:zfk s d v=0
 ·obtain ⟨hg,hd,hv⟩:=zl4 h0
  obtain ⟨⟨hT,hS,hL,h4,h5⟩,_,_⟩:=hg.at hv
  have hsh:=hg.shr hd hv
  rw[if_neg (by simpa using h0),Tr.rf (by simpa using h0),Tr.rg hv]
  by_cases h1:s.Validators.Dead.get v=true
  ·rw[if_pos h1,Tr.rt h1,Tr.rl]
  ·rw[if_neg h1,Tr.rf (by simpa using h1)]
   by_cases h2:n < 1∨1125899906842624 < n
   ·rw[if_pos h2,Tr.rt (by simpa using h2),Tr.rl]
   ·rw[if_neg h2,Tr.rf (by simp only[Bool.or_eq_false_iff,yy8];omega)]
    by_cases h3:s.Validators.Shares.get v=0
    ·have e:zdx s v n=(n,0):=by unfold zdx;rw[if_pos h3]
     rw[e,if_neg (by simp[h3]),if_neg (by simp;omega),if_neg (by show ¬ n < 1;omega),Tr.rf (by simp[h3]),Tr.rf (by simp;omega),Tr.rb zaij]
     by_cases h6:(zrr s.Bank d n).2=0
     ·rw[if_neg (by simpa using h6),Tr.rf (by simpa using h6),Tr.rg hd,Tr.rg hv,Tr.rg hd,Tr.rg hv,Tr.rl,zm (x:=s.Validators.Tokens.get v+n) (by omega) (by omega),zm (x:=s.Validators.Shares.get v+n) (by omega) (by omega),zm (x:=A46.get s.Shares d v+n) (by omega) (by omega)]
      rfl
     ·rw[if_pos h6,Tr.rt (by simpa using h6),Tr.rl]
    ·have e:zdx s v n=zls n (s.Validators.Shares.get v) (s.Validators.Tokens.get v):=by unfold zdx;rw[if_neg h3]
     have hm:=z5l n (s.Validators.Shares.get v) (s.Validators.Tokens.get v)
     rw[e,Tr.rt (by simp;omega)]
     by_cases h7:s.Validators.Tokens.get v=0
     ·rw[if_pos ⟨h3,h7⟩,Tr.rt (by simpa using h7),Tr.rl]
     ·rw[if_neg (by simp[h7]),Tr.rf (by simpa using h7)]
      simp only[z29 (a:=n) (b:=s.Validators.Shares.get v) (c:=s.Validators.Tokens.get v) (by omega) (by omega) (by omega),Option.isSome_some,yy2]
      rw[Tr.rg (by trivial),zm (x:=1125899906842624 - _) (by omega) (by omega)]
      obtain ⟨k,hk⟩:∃ k,k=zls n (s.Validators.Shares.get v) (s.Validators.Tokens.get v):=⟨_,rfl⟩
      rw[← hk] at hm ⊢
      by_cases h8:k.2≠0∨1125899906842624 < s.Validators.Shares.get v+k.1
      ·rw[if_pos h8,Tr.rt (by simp only[Bool.or_eq_true,decide_eq_true_eq,bne_iff_ne];omega),Tr.rl]
      ·rw[if_neg h8,Tr.rf (by simp only[Bool.or_eq_false_iff,yy8,bne_eq_false_iff_eq];omega)]
       by_cases h9:k.1 < 1
       ·rw[if_pos h9,Tr.rt (by rw[beq_iff_eq];omega),Tr.rl]
       ·rw[if_neg h9,Tr.rf (by rw[beq_eq_false_iff_ne];omega),Tr.rb zaij]
        by_cases h6:(zrr s.Bank d n).2=0
        ·rw[if_neg (by simpa using h6),Tr.rf (by simpa using h6),Tr.rg hd,Tr.rg hv,Tr.rg hd,Tr.rg hv,Tr.rl,zm (x:=s.Validators.Tokens.get v+n) (by omega) (by omega),zm (x:=s.Validators.Shares.get v+k.1) (by omega) (by omega),zm (x:=A46.get s.Shares d v+k.1) (by omega) (by omega)]
         rfl
        ·rw[if_pos h6,Tr.rt (by simpa using h6),Tr.rl]
 ·rw[if_pos h0,Tr.rt (by simpa using h0),Tr.rl]
theorem GoodS.fit {s:Stake} (h:GoodS s):s.Waits.length*64≤140737488351232:=by have:=h.2.1.2.2;omega
def outW (s:Stake) (d v n:Int) (w:Wait):Wait:={ w with Number:=s.Next,D:=d,V:=v,Amount:=n }
def subS (s:Stake) (b:Bank) (d v n k:Int) (w:Wait):Stake :=
 ⟨b,{ s.Validators with Tokens:=s.Validators.Tokens.set v (s.Validators.Tokens.get v - n),Shares:=s.Validators.Shares.set v (s.Validators.Shares.get v - k) },A46.set s.Shares d v (A46.get s.Shares d v - k),s.Waits++[outW s d v n w],s.Next+1⟩
def zjh (s:Stake) (v k:Int):Int:=(zls k (s.Validators.Tokens.get v) (s.Validators.Shares.get v)).1
def zcc (s:Stake) (d v k:Int) (w:Wait):Stake×Int :=
 if zfk s d v≠0 then (s,zfk s d v) else if k < 1∨1125899906842624 < k∨w.Height < 0∨w.Due < 0 then (s,2) else if A46.get s.Shares d v < k then (s,7)
 else if 60≤s.Waits.length∨1125899906842624≤s.Next then (s,6) else if zjh s v k < 1 then (s,8) else if (zcb s.Bank 4 5 (zjh s v k)).2≠0 then (s,(zcb s.Bank 4 5 (zjh s v k)).2)
 else (subS s (zcb s.Bank 4 5 (zjh s v k)).1 d v (zjh s v k) k w,0)
theorem z9l {s:Stake} {v k:Int} (h1:1≤k) (hT:inA (s.Validators.Tokens.get v)) (h:k=s.Validators.Shares.get v):zjh s v k=s.Validators.Tokens.get v:=by
 unfold zjh zls
 rw[← h,if_neg (by omega),Int.mul_ediv_cancel_left _ (by omega),if_neg (by omega)]
theorem zy0 {l:List Wait} (h:l.length*64≤140737488351232):zw l=some l:=by
 rw[zw,zfr]
 refine Tr.run_split (fun h0=>?_) (fun _=>?_) (.inr trivial)
 ·rw[Tr.rl,List.length_eq_zero_iff.1 h0]
 ·rw[Tr.rg (by simp only[zbc,List.length_nil];omega),Tr.rl]
theorem z3a {s:Stake} (h:GoodS s) {d v:Int} (hd:0≤d∧d < 4) (hv:0≤v∧v < 6):A46.get s.Shares d v≤s.Validators.Shares.get v:=by
 have h0:=h.shr (d:=0) (by omega) hv
 have h1:=h.shr (d:=1) (by omega) hv
 have h2:=h.shr (d:=2) (by omega) hv
 have h3:=h.shr (d:=3) (by omega) hv
 rw[← (h.at hv).2.2]
 unfold z4p shr
 obtain rfl | rfl | rfl | rfl:d=0∨d=1∨d=2∨d=3:=by omega
 all_goals omega
theorem z7n {s:Stake} {d v k:Int} {w:Wait} (hk:k≤9223372036854775807):zi8 s d v k w=some (zcc s d v k w):=by
 rw[zi8,zj9,Tr.rb (zu5 _ _ _)]
 unfold zcc
 by_cases h0:zfk s d v=0
 ·obtain ⟨hg,hd,hv⟩:=zl4 h0
  obtain ⟨⟨hT,hS,hL,h4,h5⟩,_,_⟩:=hg.at hv
  have hsh:=hg.shr hd hv
  have hle:=z3a hg hd hv
  have hN:=hg.2.1
  rw[if_neg (by simpa using h0),Tr.rf (by simpa using h0)]
  by_cases h1:k < 1∨1125899906842624 < k∨w.Height < 0∨w.Due < 0
  ·rw[if_pos h1,Tr.rt (by simpa[or_assoc] using h1),Tr.rl]
  ·rw[if_neg h1,Tr.rf (by simp only[Bool.or_eq_false_iff,yy8];omega),Tr.rg hd,Tr.rg hv]
   by_cases h2:A46.get s.Shares d v < k
   ·rw[if_pos h2,Tr.rt (by simpa using h2),Tr.rl]
   ·rw[if_neg h2,Tr.rf (by simpa using h2)]
    by_cases h3:60≤s.Waits.length∨1125899906842624≤s.Next
    ·rw[if_pos h3,Tr.rt (by simp only[Bool.or_eq_true,decide_eq_true_eq];omega),Tr.rl]
    ·rw[if_neg h3,Tr.rf (by simp only[Bool.or_eq_false_iff,yy8];omega),Tr.rg hv]
     have hm:=z5l k (s.Validators.Tokens.get v) (s.Validators.Shares.get v)
     have hlen:s.Waits.length*64≤140737488351232:=by omega
     simp only[z29 (a:=k) (b:=s.Validators.Tokens.get v) (c:=s.Validators.Shares.get v) (by omega) (by omega) (by omega),zy0 hlen,Option.isSome_some,yy2]
     rw[Tr.rg (by trivial)]
     change 0≤zjh s v k∧zjh s v k≤1125899906842624 at hm
     have ef:∀ n:Int,(⟨s.Next,d,v,n,w.Height,w.Due,w.h0,w.h1⟩:Wait)=outW s d v n w:=fun _=>rfl
     by_cases h6:k=s.Validators.Shares.get v
     ·have ew:=z9l (by omega) hT h6
      rw[Tr.rt (by simpa using h6),ew]
      by_cases h7:s.Validators.Tokens.get v < 1
      ·rw[if_pos h7,Tr.rt (by rw[beq_iff_eq];omega),Tr.rl]
      ·rw[if_neg h7,Tr.rf (by rw[beq_eq_false_iff_ne];omega),Tr.rb z9k]
       by_cases h8:(zcb s.Bank 4 5 (s.Validators.Tokens.get v)).2=0
       ·rw[if_neg (by simpa using h8),Tr.rf (by simpa using h8),Tr.rg hd,Tr.rg hv,Tr.rg hd,Tr.rg hv,Tr.rg (by trivial),Tr.rg (by simp only[zbc,yy5];omega),Tr.rl,
         zm (x:=s.Validators.Tokens.get v - _) (by omega) (by omega),zm (x:=s.Validators.Shares.get v - k) (by omega) (by omega),zm (x:=A46.get s.Shares d v - k) (by omega) (by omega),zm (x:=s.Next+1) (by omega) (by omega)]
        rfl
       ·rw[if_pos h8,Tr.rt (by simpa using h8),Tr.rl]
     ·rw[Tr.rf (by simpa using h6)]
      change Tr.run (.ite (zjh s v k==0) _ (.bind (zih s.Bank (zjh s v k)) _))=_
      by_cases h7:zjh s v k < 1
      ·rw[if_pos h7,Tr.rt (by rw[beq_iff_eq];omega),Tr.rl]
      ·rw[if_neg h7,Tr.rf (by rw[beq_eq_false_iff_ne];omega),Tr.rb z9k]
       change _=some (if (zcb s.Bank 4 5 (zjh s v k)).2≠0 then (s,(zcb s.Bank 4 5 (zjh s v k)).2) else (subS s (zcb s.Bank 4 5 (zjh s v k)).1 d v (zjh s v k) k w,0))
       by_cases h8:(zcb s.Bank 4 5 (zjh s v k)).2=0
       ·rw[if_neg (by simpa using h8),Tr.rf (by simpa using h8),Tr.rg hd,Tr.rg hv,Tr.rg hd,Tr.rg hv,Tr.rg (by trivial),Tr.rg (by simp only[zbc,yy5];omega),Tr.rl,
         zm (x:=s.Validators.Tokens.get v - _) (by unfold zjh at hm;omega) (by unfold zjh at hm;omega),zm (x:=s.Validators.Shares.get v - k) (by omega) (by omega),zm (x:=A46.get s.Shares d v - k) (by omega) (by omega),zm (x:=s.Next+1) (by omega) (by omega)]
        rfl
       ·rw[if_pos h8,Tr.rt (by simpa using h8),Tr.rl]
 ·rw[if_pos h0,Tr.rt (by simpa using h0),Tr.rl]
def zzz (s:Stake) (v:Int) (j d:Bool):Stake:={ s with Validators:={ s.Validators with Jailed:=s.Validators.Jailed.set v j,Dead:=s.Validators.Dead.set v d } }
def zdn (s:Stake) (v what:Int):Stake×Int :=
 if zfk s 0 v≠0 then (s,zfk s 0 v) else if what=0∧s.Validators.Jailed.get v=true then (s,14) else if 0 < what∧s.Validators.Dead.get v=true then (s,15)
 else if what=1∧s.Validators.Jailed.get v=false then (s,4) else (zzz s v (what != 1) (what==2),0)
theorem z3b {α:Type} {a:A6 α} {v:Int} {x:α} (hv:0≤v∧v < 6) (h:a.get v=x):a.set v x=a:=by
 subst h
 obtain rfl | rfl | rfl | rfl | rfl | rfl:v=0∨v=1∨v=2∨v=3∨v=4∨v=5:=by omega
 all_goals rfl
theorem zabw {s:Stake} (h:GoodS s) {v:Int} (hv:0≤v∧v < 6) (hj:s.Validators.Jailed.get v=false):s.Validators.Dead.get v=false:=by
 have:=(h.at hv).1.2.2.2.2
 cases hd:s.Validators.Dead.get v
 ·rfl
 ·exact absurd ⟨hd,hj⟩ this
theorem zaio {s:Stake} {v:Int}:zka s v=some (zdn s v 0):=by
 rw[zka,zt2,Tr.rb (zu5 _ _ _)]
 unfold zdn
 by_cases h0:zfk s 0 v=0
 ·obtain ⟨hg,hd,hv⟩:=zl4 h0
  rw[if_neg (by simpa using h0),Tr.rf (by simpa using h0),Tr.rg hv]
  by_cases h1:s.Validators.Jailed.get v=true
  ·rw[if_pos ⟨rfl,h1⟩,Tr.rt h1,Tr.rl]
  ·have e:s.Validators.Dead.set v false=s.Validators.Dead:=z3b hv (zabw hg hv (by simpa using h1))
   rw[if_neg (fun h=>h1 h.2),Tr.rf (by simpa using h1),Tr.rg hv,Tr.rl,if_neg (by simp),if_neg (by simp)]
   unfold zzz
   show _=some (({ s with Validators:={ s.Validators with Jailed:=s.Validators.Jailed.set v true,Dead:=s.Validators.Dead.set v false } }:Stake),(0:Int))
   rw[e]
 ·rw[if_pos h0,Tr.rt (by simpa using h0),Tr.rl]
theorem zaip {s:Stake} {v:Int}:zom s v=some (zdn s v 1):=by
 rw[zom,zqo,Tr.rb (zu5 _ _ _)]
 unfold zdn
 by_cases h0:zfk s 0 v=0
 ·obtain ⟨hg,hd,hv⟩:=zl4 h0
  rw[if_neg (by simpa using h0),Tr.rf (by simpa using h0),Tr.rg hv,if_neg (by simp)]
  by_cases h1:s.Validators.Dead.get v=true
  ·rw[if_pos ⟨by omega,h1⟩,Tr.rt h1,Tr.rl]
  ·have e:s.Validators.Dead.set v false=s.Validators.Dead:=z3b hv (by simpa using h1)
   rw[if_neg (fun h=>h1 h.2),Tr.rf (by simpa using h1)]
   by_cases h2:s.Validators.Jailed.get v=false
   ·rw[if_pos ⟨rfl,h2⟩,Tr.rt (by simpa using h2),Tr.rl]
   ·rw[if_neg (fun h=>h2 h.2),Tr.rf (by simpa using h2),Tr.rl]
    unfold zzz
    show _=some (({ s with Validators:={ s.Validators with Jailed:=s.Validators.Jailed.set v false,Dead:=s.Validators.Dead.set v false } }:Stake),(0:Int))
    rw[e]
 ·rw[if_pos h0,Tr.rt (by simpa using h0),Tr.rl]
theorem zabx {s:Stake} {v:Int}:zkb s v=some (zdn s v 2):=by
 rw[zkb,zt3,Tr.rb (zu5 _ _ _)]
 unfold zdn
 by_cases h0:zfk s 0 v=0
 ·obtain ⟨hg,hd,hv⟩:=zl4 h0
  rw[if_neg (by simpa using h0),Tr.rf (by simpa using h0),Tr.rg hv,if_neg (by simp)]
  by_cases h1:s.Validators.Dead.get v=true
  ·rw[if_pos ⟨by omega,h1⟩,Tr.rt h1,Tr.rl]
  ·rw[if_neg (fun h=>h1 h.2),Tr.rf (by simpa using h1),Tr.rg hv,Tr.rg hv,if_neg (by simp),Tr.rl]
   rfl
 ·rw[if_pos h0,Tr.rt (by simpa using h0),Tr.rl]
theorem zrs {α:Type} {l:List α} {i:Nat} (h:i < l.length) (d:α):l.getD i d=l[i]:=by rw[yy0,yy3 h];rfl
theorem z7o {α:Type} {l:List α} {i:Nat} (h:i < l.length) (d:α):l.set i (l.getD i d)=l:=by rw[zrs h];exact List.set_getElem_self h
theorem z7p {σ ρ τ α:Type} {F:σ→Option (σ⊕ρ)} (l:List α) (d:α) (mk:Nat→List α→τ→σ) (I:Nat→τ→Prop) (f:α→α) (g:τ→α→τ) (out:List α→τ→ρ)
  (hend:∀ W t,W.length=l.length→I l.length t→F (mk l.length W t)=some (.inr (out W t)))
  (hstep:∀ i W t,i < l.length→W.length=l.length→W.getD i d=l.getD i d→I i t→F (mk i W t)=some (.inl (mk (i+1) (W.set i (f (l.getD i d))) (g t (l.getD i d))))∧I (i+1) (g t (l.getD i d))) (t:τ) (h0:I 0 t) :
  zcv F (mk 0 l t)=some (out (l.map f) (l.foldl g t)):=by
 have:=zlq (F:=F) l.length (fun i (s:List α×τ)=>mk i s.1 s.2) (fun i s=>s.1=(l.take i).map f++l.drop i∧I i s.2) (fun i s=>out (l.map f) ((l.drop i).foldl g s.2)) (by
   rintro ⟨W,t⟩ ⟨h1,h2⟩
   simp only at h1 h2
   rw[hend W t (by rw[h1];simp) h2,List.drop_length,h1,List.take_length,List.drop_length,List.append_nil];rfl) (by
   rintro i ⟨W,t⟩ hi ⟨h1,h2⟩
   simp only at h1 h2
   have hs:=zbj (l:=l) (k:=i) hi d
   have hW:W.length=l.length:=by rw[h1];simp;omega
   have ht:l.take (i+1)=l.take i++[l.getD i d]:=by rw[List.take_succ_eq_append_getElem hi,zrs hi]
   have hlen:((l.take i).map f).length=i:=by simp;omega
   have hg:W.getD i d=l.getD i d:=by
    rw[h1,yy0,List.getElem?_append_right (by omega),hlen,Nat.sub_self,hs];rfl
   obtain ⟨k1,k2⟩:=hstep i W t hi hW hg h2
   refine .inl ⟨(W.set i (f (l.getD i d)),g t (l.getD i d)),k1,⟨?_,k2⟩,?_⟩
   ·show W.set i _=_
    rw[h1,List.set_append_right _ _ (by omega),hlen,Nat.sub_self,hs,List.set_cons_zero,ht,List.map_append,List.append_assoc];rfl
   ·rw[hs,List.foldl_cons]) 0 (l,t) (Nat.zero_le _) ⟨by simp,h0⟩
 simpa using this
def relW (c h:Int) (w:Wait):Wait:={ w with h0:=if c=0∧w.h0≤h then 0 else w.h0,h1:=if c=1∧w.h1≤h then 0 else w.h1 }
def zp2 (s:Stake) (c h:Int):Stake:={ s with Waits:=s.Waits.map (relW c h) }
theorem zamg {c h:Int} {w:Wait} (hc:c < 0∨2≤c):relW c h w=w:=by unfold relW;rw[if_neg (by omega),if_neg (by omega)]
theorem z9m {s:Stake} {c h:Int} (hc:c < 0∨2≤c):zp2 s c h=s:=by
 unfold zp2
 have:s.Waits.map (relW c h)=s.Waits:=by
  rw[show relW c h=id from funext fun w=>zamg hc,List.map_id]
 rw[this]
theorem zz0 {s:Stake} {c h:Int} (hl:s.Waits.length*64≤140737488351232):zf2 s c h=some (zp2 s c h):=by
 rw[zf2,zoi]
 by_cases hc:c < 0∨2≤c
 ·rw[Tr.rt (by simpa using hc),Tr.rl,z9m hc]
 ·rw[Tr.rf (by simp only[Bool.or_eq_false_iff,yy8];omega),Tr.rb (zy0 hl)]
  have key:∀ z:Stake,zi9 c h s.Waits.length 0 { s with Waits:=s.Waits } z=some (zp2 s c h,z):=by
   intro z
   rw[zi9]
   refine z7p (F:=fun s:Int×Int×Int×Int×Stake×Stake=>(zec s.1 s.2.1 s.2.2.1 s.2.2.2.1 s.2.2.2.2.1 s.2.2.2.2.2).run) s.Waits default
    (fun i W (_:Unit)=>(c,h,(s.Waits.length:Int),(i:Int),{ s with Waits:=W },z)) (fun _ _=>True) (relW c h) (fun t _=>t) (fun W _=>({ s with Waits:=W },z)) ?_ ?_ () trivial
   ·intro W t hW _
    simp only[zec];rw[Tr.rf (by simp),Tr.rl]
   ·intro i W t hi hW hg _
    refine ⟨?_,trivial⟩
    simp only[zec]
    rw[yy4,hg]
    obtain ⟨w,hw⟩:∃ w,w=s.Waits.getD i default:=⟨_,rfl⟩
    rw[← hw] at hg ⊢
    rw[Tr.rt (by simpa using hi),Tr.rg ⟨by omega,by rw[zbc];omega⟩,Tr.rg (by omega)]
    by_cases hp:A2.get ⟨w.h0,w.h1⟩ c≤h
    ·rw[Tr.rt (by simpa using hp),Tr.rg ⟨by omega,by rw[zbc];omega⟩,Tr.rg (by omega),Tr.rl,zq (by omega)]
     congr 4
     unfold relW
     unfold A2.get at hp
     obtain rfl | rfl:c=0∨c=1:=by omega
     ·simp at hp;simp[hp]
     ·simp at hp;simp[hp]
    ·have e:relW c h w=w:=by
      unfold relW
      unfold A2.get at hp
      obtain rfl | rfl:c=0∨c=1:=by omega
      ·simp at hp
       rw[if_neg (by omega),if_neg (by omega)]
      ·simp at hp
       rw[if_neg (by omega),if_neg (by omega)]
     rw[Tr.rf (by simpa using hp),Tr.rl,zq (by omega),e,← hg,z7o (by omega)]
  rw[Tr.rb (key _),Tr.rl]
def dueW (time:Int) (w:Wait):Bool:=(decide (w.Due≤time)&&w.h0==0)&&w.h1==0
def payF (time:Int) (t:Bank×List Wait×List Int) (w:Wait):Bank×List Wait×List Int :=
 if dueW time w=true then ((z7j t.1 w.D w.Amount).1,t.2.1,t.2.2++[w.Number]) else (t.1,t.2.1++[w],t.2.2)
def z5m (s:Stake) (time:Int):Stake×List Int×Int :=
 if ¬ GoodS s then (s,[],2) else ({ s with Bank:=(s.Waits.foldl (payF time) (s.Bank,[],[])).1,Waits:=(s.Waits.foldl (payF time) (s.Bank,[],[])).2.1 },(s.Waits.foldl (payF time) (s.Bank,[],[])).2.2,0)
theorem zaiq {b:Bank} {d n:Int} (hg:zis b) (hd:0≤d∧d < 4) (hn:inA n) (hw:n≤b.Waiting):(z7j b d n).2=0∧zis (z7j b d n).1∧(z7j b d n).1.Waiting=b.Waiting - n∧(z7j b d n).1.Bonded=b.Bonded∧(z7j b d n).1.Burnt=b.Burnt:=by
 have e:z7j b d n=zcb b 5 d n:=by unfold z7j;rw[if_neg (by omega)]
 rw[e,z7l (f:=5) (t:=d) hg hn.1 hn.2 hw]
 refine ⟨rfl,(zo8 (.inr (.inr (.inl ⟨rfl,by omega⟩))) hg hn.1 hw).1,?_⟩
 obtain rfl | rfl | rfl | rfl:d=0∨d=1∨d=2∨d=3:=by omega
 all_goals simp[zkq,bkA,plA,A7.get,A7.set]
theorem zxi {next:Int}:∀ {l:List Wait} {p:Int} (i:Nat),zit next p l→∃ q,zit next q (l.drop i)
 | l,p,0,h=>⟨p,h⟩
 | [],p,_+1,h=>⟨p,trivial⟩
 | w::l,p,i+1,h=>zxi i h.2
theorem zrt {next:Int}:∀ {l:List Wait} {p:Int},zit next p l→0≤zq6 l
 | [],_,_=>Int.le_refl 0
 | w::l,p,h=>by
  have h1:=zrt h.2
  have h2:=h.1.2.2.2.2.2.2.1
  unfold inA at h2
  simp only[zq6];omega
def PayI (s:Stake) (i:Nat) (t:Bank×List Wait×List Int):Prop :=
 zis t.1∧zq6 (s.Waits.drop i)≤t.1.Waiting∧t.2.1.length≤i∧t.2.2.length≤i∧t.1.Bonded=s.Bank.Bonded∧t.1.Burnt=s.Bank.Burnt
theorem zair {s:Stake} (hg:GoodS s) {time:Int} {i:Nat} (hi:i < s.Waits.length) {t:Bank×List Wait×List Int} (h:PayI s i t) :
  PayI s (i+1) (payF time t (s.Waits.getD i default))∧(z7j t.1 (s.Waits.getD i default).D (s.Waits.getD i default).Amount).2=0:=by
 obtain ⟨h1,h2,h3,h4,h5,h6⟩:=h
 have hs:=zbj (l:=s.Waits) (k:=i) hi default
 obtain ⟨q,hq⟩:=zxi i hg.2.2.2.1
 rw[hs] at hq h2
 obtain ⟨w,hw⟩:∃ w,w=s.Waits.getD i default:=⟨_,rfl⟩
 rw[← hw] at hq h2 ⊢
 have hn:=zrt hq.2
 obtain ⟨_,_,d0,d1,_,_,ha,_,_⟩:=hq.1
 simp only[zq6] at h2
 obtain ⟨p1,p2,p3,p4,p5⟩:=zaiq h1 ⟨d0,d1⟩ ha (by omega)
 refine ⟨?_,p1⟩
 unfold payF
 by_cases hd:dueW time w=true
 ·rw[if_pos hd]
  exact ⟨p2,by show _≤(z7j t.1 w.D w.Amount).1.Waiting;omega,by show t.2.1.length≤_;omega,by show (t.2.2++[w.Number]).length≤_;simp;omega,p4.trans h5,p5.trans h6⟩
 ·rw[if_neg hd]
  unfold inA at ha
  exact ⟨h1,by show _≤t.1.Waiting;omega,by show (t.2.1++[w]).length≤_;simp;omega,by show t.2.2.length≤_;omega,h5,h6⟩
theorem zafg {s:Stake} (hg:GoodS s):PayI s 0 (s.Bank,[],[]):=⟨hg.1,by rw[List.drop_zero,hg.2.2.2.2.2.1];exact Int.le_refl _,by simp,by simp,rfl,rfl⟩
theorem zaxa {s:Stake} {time:Int}:zpu s time=some (z5m s time):=by
 rw[zpu,zw7,Tr.rb (zuu s)]
 unfold z5m
 by_cases hg:GoodS s
 ·rw[if_neg (by simpa using hg),Tr.rf (by simpa using hg)]
  have h60:=hg.2.1.2.2
  have key:∀ z:Stake,zol time s.Waits s.Waits.length 0 s z [] []=some (.inr ({ s with Bank:=(s.Waits.foldl (payF time) (s.Bank,[],[])).1 },z,(s.Waits.foldl (payF time) (s.Bank,[],[])).2.1,(s.Waits.foldl (payF time) (s.Bank,[],[])).2.2)):=by
   intro z
   rw[zol]
   refine zkp (F:=fun s:Int×(List Wait)×Int×Int×Stake×Stake×(List Wait)×(List Int)=>(zil s.1 s.2.1 s.2.2.1 s.2.2.2.1 s.2.2.2.2.1 s.2.2.2.2.2.1 s.2.2.2.2.2.2.1 s.2.2.2.2.2.2.2).run) s.Waits default
    (fun i t=>(time,s.Waits,(s.Waits.length:Int),(i:Int),{ s with Bank:=t.1 },z,t.2.1,t.2.2)) (PayI s) (payF time) (fun t=>.inr ({ s with Bank:=t.1 },z,t.2.1,t.2.2)) ?_ ?_ (s.Bank,[],[]) (zafg hg)
   ·intro t _
    simp only[zil];rw[Tr.rf (by simp),Tr.rl]
   ·intro i t hi hI
    obtain ⟨k1,k2⟩:=zair hg (time:=time) hi hI
    refine ⟨?_,k1⟩
    obtain ⟨h1,h2,h3,h4,h5,h6⟩:=hI
    simp only[zil]
    rw[yy4]
    obtain ⟨w,hw⟩:∃ w,w=s.Waits.getD i default:=⟨_,rfl⟩
    rw[← hw] at k2 ⊢
    have hc:((decide (w.Due > time))||(!((w.h0==0)&&((w.h1==0)&&true)))) = !dueW time w:=by
     unfold dueW
     rw[Bool.eq_iff_iff]
     simp
     omega
    rw[Tr.rt (by simpa using hi),Tr.rg ⟨by omega,by rw[zbc];omega⟩]
    unfold payF
    by_cases hd:dueW time w=true
    ·rw[Tr.rf (by rw[hc,hd];rfl),Tr.rb zarc,Tr.rf (by simpa using k2),Tr.rg (by simp only[zhk,yy5];omega),Tr.rl,if_pos hd,zq (by omega)]
    ·rw[Tr.rt (by rw[hc];simpa using hd),Tr.rg (by simp only[zbc,yy5];omega),Tr.rl,if_neg hd,zq (by omega)]
  rw[Tr.rj (key _),Tr.rl]
 ·rw[if_pos hg,Tr.rt (by simpa using hg),Tr.rl]
def hitW (v h:Int) (w:Wait):Bool:=w.V==v&&decide (w.Height≥h)
def slN (v h f:Int) (w:Wait):Int:=if hitW v h w=true then (zus w.Amount f).1 else 0
def slW (v h f:Int) (w:Wait):Wait:=if hitW v h w=true then { w with Amount:=w.Amount - (zus w.Amount f).1 } else w
def z7q (v h f:Int) (l:List Wait):Int:=l.foldl (fun t w=>t+slN v h f w) 0
def zfy (s:Stake) (v f:Int):Int:=(zus (s.Validators.Tokens.get v) f).1
def ziu (s:Stake) (v h f:Int):Stake×Int×Int :=
 if zfk s 0 v≠0 then (s,0,zfk s 0 v) else if f < 0∨1000 < f then (s,0,2)
 else (⟨(zabt s.Bank (zfy s v f) (z7q v h f s.Waits)).1,{ s.Validators with Tokens:=s.Validators.Tokens.set v (s.Validators.Tokens.get v - zfy s v f),Lost:=s.Validators.Lost.set v (s.Validators.Lost.get v+(zfy s v f+z7q v h f s.Waits)) },s.Shares,s.Waits.map (slW v h f),s.Next⟩,
  zfy s v f+z7q v h f s.Waits,0)
theorem zru {n f:Int} (hn:inA n) (hf:0≤f∧f≤1000):(zus n f).2=0∧0≤(zus n f).1∧(zus n f).1≤n:=by
 obtain ⟨_,h2,h3⟩:=zaig hn.1 hn.2 hf.1 hf.2
 have e:zus n f=(n*f / 1000,0):=by
  unfold zus
  rw[if_neg (by omega)]
 rw[e]
 generalize n*f=x at h2 h3
 exact ⟨rfl,by show 0≤x / 1000;omega,by show x / 1000≤n;omega⟩
theorem zais {v h f:Int} {w:Wait} (hw:inA w.Amount) (hf:0≤f∧f≤1000):0≤slN v h f w∧slN v h f w≤w.Amount:=by
 unfold slN
 by_cases hh:hitW v h w=true
 ·rw[if_pos hh];exact (zru hw hf).2
 ·rw[if_neg hh];unfold inA at hw;omega
def SlI (s:Stake) (i:Nat) (t:Int):Prop:=0≤t∧t+zq6 (s.Waits.drop i)≤s.Bank.Waiting
theorem zadq {s:Stake} (hg:GoodS s) {v h f:Int} (hf:0≤f∧f≤1000) {i:Nat} (hi:i < s.Waits.length) {t:Int} (hI:SlI s i t) :
  SlI s (i+1) (t+slN v h f (s.Waits.getD i default))∧inA (s.Waits.getD i default).Amount∧t+slN v h f (s.Waits.getD i default)≤400000:=by
 obtain ⟨h1,h2⟩:=hI
 have hs:=zbj (l:=s.Waits) (k:=i) hi default
 obtain ⟨q,hq⟩:=zxi i hg.2.2.2.1
 rw[hs] at hq h2
 obtain ⟨w,hw⟩:∃ w,w=s.Waits.getD i default:=⟨_,rfl⟩
 rw[← hw] at hq h2 ⊢
 have hn:=zrt hq.2
 have ha:=hq.1.2.2.2.2.2.2.1
 have hb:=zais (v:=v) (h:=h) ha hf
 have hw4:okN s.Bank.Waiting:=hg.1.2.2.2.2.2.1
 unfold okN at hw4
 simp only[zq6] at h2
 exact ⟨⟨by omega,by omega⟩,ha,by omega⟩
theorem z9n {s:Stake} (hg:GoodS s):SlI s 0 0:=⟨by omega,by rw[List.drop_zero,hg.2.2.2.2.2.1];omega⟩
theorem zait {s:Stake} (hg:GoodS s) {v h f:Int} (hf:0≤f∧f≤1000):0≤z7q v h f s.Waits∧z7q v h f s.Waits≤s.Bank.Waiting:=by
 have key:∀ n,n≤s.Waits.length→SlI s n ((s.Waits.take n).foldl (fun t w=>t+slN v h f w) 0):=by
  intro n
  induction n with
  | zero=>intro _;exact z9n hg
  | succ n ih =>
   intro hn
   rw[List.take_succ_eq_append_getElem (by omega),List.foldl_append,List.foldl_cons,List.foldl_nil,← zrs (by omega) default]
   exact (zadq hg hf (by omega) (ih (by omega))).1
 have:=key s.Waits.length (Nat.le_refl _)
 rw[List.take_length] at this
 obtain ⟨h1,h2⟩:=this
 rw[List.drop_length] at h2
 simp only[zq6,Int.add_zero] at h2
 exact ⟨h1,h2⟩
theorem zy1 {s:Stake} (hg:GoodS s) {v:Int} (hv:0≤v∧v < 6):s.Validators.Tokens.get v≤s.Bank.Bonded∧s.Validators.Lost.get v≤s.Bank.Burnt:=by
 have e1:=hg.2.2.2.2.1
 have e2:=hg.2.2.2.2.2.2
 have e:∀ i:Int,0≤i→i < 6→(0≤s.Validators.Tokens.get i∧s.Validators.Tokens.get i≤1125899906842624)∧(0≤s.Validators.Lost.get i∧s.Validators.Lost.get i≤1125899906842624):=fun i h0 h1=>by
  obtain ⟨⟨k1,_,k3,_⟩,_⟩:=hg.at (v:=i) ⟨h0,h1⟩
  exact ⟨k1,k3⟩
 have t0:(0≤s.Validators.Tokens.x0∧s.Validators.Tokens.x0≤1125899906842624)∧(0≤s.Validators.Lost.x0∧s.Validators.Lost.x0≤1125899906842624):=e 0 (by omega) (by omega)
 have t1:(0≤s.Validators.Tokens.x1∧s.Validators.Tokens.x1≤1125899906842624)∧(0≤s.Validators.Lost.x1∧s.Validators.Lost.x1≤1125899906842624):=e 1 (by omega) (by omega)
 have t2:(0≤s.Validators.Tokens.x2∧s.Validators.Tokens.x2≤1125899906842624)∧(0≤s.Validators.Lost.x2∧s.Validators.Lost.x2≤1125899906842624):=e 2 (by omega) (by omega)
 have t3:(0≤s.Validators.Tokens.x3∧s.Validators.Tokens.x3≤1125899906842624)∧(0≤s.Validators.Lost.x3∧s.Validators.Lost.x3≤1125899906842624):=e 3 (by omega) (by omega)
 have t4:(0≤s.Validators.Tokens.x4∧s.Validators.Tokens.x4≤1125899906842624)∧(0≤s.Validators.Lost.x4∧s.Validators.Lost.x4≤1125899906842624):=e 4 (by omega) (by omega)
 have t5:(0≤s.Validators.Tokens.x5∧s.Validators.Tokens.x5≤1125899906842624)∧(0≤s.Validators.Lost.x5∧s.Validators.Lost.x5≤1125899906842624):=e 5 (by omega) (by omega)
 unfold sum6 at e1 e2
 obtain rfl | rfl | rfl | rfl | rfl | rfl:v=0∨v=1∨v=2∨v=3∨v=4∨v=5:=by omega
 ·show s.Validators.Tokens.x0≤_∧s.Validators.Lost.x0≤_;omega
 ·show s.Validators.Tokens.x1≤_∧s.Validators.Lost.x1≤_;omega
 ·show s.Validators.Tokens.x2≤_∧s.Validators.Lost.x2≤_;omega
 ·show s.Validators.Tokens.x3≤_∧s.Validators.Lost.x3≤_;omega
 ·show s.Validators.Tokens.x4≤_∧s.Validators.Lost.x4≤_;omega
 ·show s.Validators.Tokens.x5≤_∧s.Validators.Lost.x5≤_;omega
theorem zadr {b:Bank} {x y:Int} (hg:zis b) (h0:0≤x) (h1:x≤b.Bonded) (h2:0≤y) (h3:y≤b.Waiting) :
  zabt b x y=(⟨b.Free,b.Bonded - x,b.Waiting - y,b.Burnt+x+y⟩,0)∧zis (zabt b x y).1:=by
 have p1:okN b.Bonded:=hg.2.2.2.2.1
 have p2:okN b.Waiting:=hg.2.2.2.2.2.1
 unfold okN at p1 p2
 have e1:=z7l (f:=4) (t:=6) (n:=x) hg h0 (by omega) h1
 have g1:=(zo8 (f:=4) (t:=6) (n:=x) (.inr (.inr (.inr (.inl ⟨rfl,rfl⟩)))) hg h0 h1).1
 have e3:(plA (zkq b 4 6 x)).get 5=b.Waiting:=by simp[zkq,bkA,plA,A7.get,A7.set]
 have e2:=z7l (f:=5) (t:=6) (n:=y) g1 h2 (by omega) (by rw[e3];exact h3)
 have g2:=(zo8 (f:=5) (t:=6) (n:=y) (.inr (.inr (.inr (.inr ⟨rfl,rfl⟩)))) g1 h2 (by rw[e3];exact h3)).1
 have e:zabt b x y=(zkq (zkq b 4 6 x) 5 6 y,0):=by
  unfold zabt
  rw[e1]
  simp only[e2]
  rw[if_neg (by simp),if_neg (by simp)]
 rw[e]
 refine ⟨?_,g2⟩
 simp[zkq,bkA,plA,A7.get,A7.set]
theorem z7r {s:Stake} {v h f:Int}:zgc s v h f=some (ziu s v h f):=by
 rw[zgc,zso,Tr.rb (zu5 _ _ _)]
 unfold ziu
 by_cases h0:zfk s 0 v=0
 ·obtain ⟨hg,hd,hv⟩:=zl4 h0
  obtain ⟨⟨hT,hS,hL,h4,h5⟩,_,_⟩:=hg.at hv
  rw[if_neg (by simpa using h0),Tr.rf (by simpa using h0),Tr.rg hv,Tr.rb zaih]
  by_cases hf:f < 0∨1000 < f
  ·have e:zus (s.Validators.Tokens.get v) f=(0,2):=by unfold zus;rw[if_pos (by omega)]
   rw[if_pos hf,e,Tr.rt (by rfl),Tr.rl]
  ·have hf':0≤f∧f≤1000:=by omega
   obtain ⟨b1,b2,b3⟩:=zru hT hf'
   rw[if_neg hf,Tr.rf (by simpa using b1),Tr.rb (zy0 hg.fit)]
   have key:∀ z:Stake,zk8 v h f v (zus (s.Validators.Tokens.get v) f).1 0 s.Waits.length 0 s z s.Waits=some (v,(zus (s.Validators.Tokens.get v) f).1,z7q v h f s.Waits,s,z,s.Waits.map (slW v h f)):=by
    intro z
    rw[zk8]
    refine z7p (F:=fun s:Int×Int×Int×Int×Int×Int×Int×Int×Stake×Stake×(List Wait)=>(zf3 s.1 s.2.1 s.2.2.1 s.2.2.2.1 s.2.2.2.2.1 s.2.2.2.2.2.1 s.2.2.2.2.2.2.1 s.2.2.2.2.2.2.2.1 s.2.2.2.2.2.2.2.2.1 s.2.2.2.2.2.2.2.2.2.1 s.2.2.2.2.2.2.2.2.2.2).run) s.Waits default
     (fun i W t=>(v,h,f,v,(zus (s.Validators.Tokens.get v) f).1,t,(s.Waits.length:Int),(i:Int),s,z,W)) (SlI s) (slW v h f) (fun t w=>t+slN v h f w) (fun W t=>(v,(zus (s.Validators.Tokens.get v) f).1,t,s,z,W)) ?_ ?_ 0 (z9n hg)
    ·intro W t hW _
     simp only[zf3];rw[Tr.rf (by simp),Tr.rl]
    ·intro i W t hi hW hgi hI
     have h60:=hg.2.1.2.2
     obtain ⟨k1,k2,k3⟩:=zadq hg (v:=v) (h:=h) hf' hi hI
     refine ⟨?_,k1⟩
     have ht:=hI.1
     simp only[zf3]
     rw[yy4,hgi]
     obtain ⟨w,hw⟩:∃ w,w=s.Waits.getD i default:=⟨_,rfl⟩
     rw[← hw] at k2 k3 hgi ⊢
     rw[Tr.rt (by simpa using hi),Tr.rg ⟨by omega,by rw[zbc];omega⟩]
     unfold slN at k3
     unfold slN slW
     by_cases hh:hitW v h w=true
     ·obtain ⟨c1,c2,c3⟩:=zru k2 hf'
      unfold inA at k2
      rw[if_pos hh] at k3
      rw[Tr.rt (b:=w.V==v&&decide (w.Height≥h)) hh,Tr.rb zaih,Tr.rl,if_pos hh,if_pos hh,zq (by omega),zm (x:=t+_) (by omega) (by omega),zm (x:=w.Amount - _) (by omega) (by omega)]
     ·rw[Tr.rf (by unfold hitW at hh;simpa using hh),Tr.rl,if_neg hh,if_neg hh,zq (by omega),← hgi,z7o (by omega),Int.add_zero]
   have hsum:=zait hg (v:=v) (h:=h) hf'
   have htok:=zy1 hg hv
   have o1:okN s.Bank.Waiting:=hg.1.2.2.2.2.2.1
   have o2:okN s.Bank.Bonded:=hg.1.2.2.2.2.1
   have o3:okN s.Bank.Burnt:=hg.1.2.2.2.2.2.2.1
   unfold okN at o1 o2 o3
   have hb:=(zadr hg.1 b2 (Int.le_trans b3 htok.1) hsum.1 hsum.2).1
   rw[Tr.rb (key _),Tr.rb zard]
   unfold inA at hL hT
   unfold zfy
   simp only[]
   rw[Tr.rf (by rw[hb];rfl),Tr.rl]
   obtain ⟨x,hx⟩:∃ x,x=(zus (s.Validators.Tokens.get v) f).1:=⟨_,rfl⟩
   obtain ⟨y,hy⟩:∃ y,y=z7q v h f s.Waits:=⟨_,rfl⟩
   rw[← hx] at b2 b3 ⊢
   rw[← hy] at hsum ⊢
   rw[zm (x:=s.Validators.Tokens.get v - x) (by omega) (by omega),zm (x:=s.Validators.Lost.get v+x) (by omega) (by omega),zm (x:=s.Validators.Lost.get v+x+y) (by omega) (by omega),zm (x:=x+y) (by omega) (by omega),Int.add_assoc]
 ·rw[if_pos h0,Tr.rt (by simpa using h0),Tr.rl]
def ltL (a b:Power):Bool:=decide (b.N < a.N)||(a.N==b.N&&decide (a.V < b.V))
theorem zabz {a b:Power}:ltL a b=true↔b.N < a.N∨(a.N=b.N∧a.V < b.V):=by unfold ltL;simp
theorem z7s {a b:Power}:ltL a b=false↔¬ (b.N < a.N∨(a.N=b.N∧a.V < b.V)):=by rw[← zabz];simp
theorem swo_ltL:Sort.SWO ltL:=⟨fun x=>by rw[z7s];omega,fun x y z=>by simp only[zabz];omega,fun x y z=>by simp only[z7s];omega⟩
theorem z9o {lt:Power→Power→Bool} (a:Nat):∀ (j:Nat) (d:Array Power),j < d.size →
  (Sort.insInner lt a j d).size=d.size∧(∀ k,j < k→(Sort.insInner lt a j d)[k]! = d[k]!)∧∀ k,k≤j→∃ q,q≤j∧(Sort.insInner lt a j d)[k]! = d[q]!
 | 0,d,hj=>by
  unfold Sort.insInner
  exact ⟨rfl,fun _ _=>rfl,fun k hk=>⟨k,hk,rfl⟩⟩
 | j+1,d,hj=>by
  unfold Sort.insInner
  split
  ·obtain ⟨h1,h2,h3⟩:=z9o (lt:=lt) a j (Sort.swp d (j+1) j) (by rw[Sort.swp_size];omega)
   have g:=Sort.swp_get d hj (show j < d.size by omega)
   refine ⟨by rw[h1,Sort.swp_size],fun k hk=>?_,fun k hk=>?_⟩
   ·rw[h2 k (by omega),g,if_neg (by omega),if_neg (by omega)]
   ·by_cases he:k=j+1
    ·exact ⟨j,by omega,by rw[h2 k (by omega),g,if_neg (by omega),if_pos he]⟩
    ·obtain ⟨q,q1,q2⟩:=h3 k (by omega)
     by_cases hq:q=j
     ·exact ⟨j+1,by omega,by rw[q2,g,if_pos hq]⟩
     ·exact ⟨q,by omega,by rw[q2,g,if_neg hq,if_neg (by omega)]⟩
  ·exact ⟨rfl,fun _ _=>rfl,fun k hk=>⟨k,hk,rfl⟩⟩
theorem zads (a:Nat):∀ (j:Nat) (d:Array Power),j < d.size→(∀ k,k < j→d[k]!.V < d[j]!.V)→Sort.insInner ltN a j d=Sort.insInner ltL a j d
 | 0,d,_,_=>by unfold Sort.insInner;rfl
 | j+1,d,hj,h=>by
  have e:ltN d[j+1]! d[j]! = ltL d[j+1]! d[j]! := by
   have:=h j (by omega)
   unfold ltN ltL
   rw[Bool.eq_iff_iff];simp;omega
  unfold Sort.insInner
  rw[e]
  split
  ·have g:=Sort.swp_get d hj (show j < d.size by omega)
   refine zads a j _ (by rw[Sort.swp_size];omega) (fun k hk=>?_)
   rw[g,g,if_neg (by omega),if_neg (by omega),if_pos rfl]
   exact h k (by omega)
  ·rfl
theorem z9p (a b:Nat):∀ (n i:Nat) (d:Array Power),b - i=n→b≤d.size→(∀ k m,k < m→i≤m→m < b→d[k]!.V < d[m]!.V)→Sort.insOuter ltN a b i d=Sort.insOuter ltL a b i d
 | 0,i,d,hn,_,_=>by
  rw[Sort.insOuter,if_neg (by omega),Sort.insOuter,if_neg (by omega)]
 | n+1,i,d,hn,hb,h=>by
  rw[Sort.insOuter,if_pos (by omega)]
  conv=>rhs;rw[Sort.insOuter,if_pos (show i < b by omega)]
  rw[zads a i d (by omega) (fun k hk=>h k i hk (Nat.le_refl _) (by omega))]
  obtain ⟨h1,h2,h3⟩:=z9o (lt:=ltL) a i d (by omega)
  refine z9p a b n (i+1) _ (by omega) (by rw[h1];exact hb) (fun k m hk hm hmb=>?_)
  rw[h2 m (by omega)]
  by_cases hki:k≤i
  ·obtain ⟨q,q1,q2⟩:=h3 k hki
   rw[q2]
   exact h q m (by omega) (by omega) hmb
  ·rw[h2 k (by omega)]
   exact h k m hk (by omega) hmb
theorem zaiu {lt:Power→Power→Bool} (hs:Sort.SWO lt) (l:List Power):((Sort.insertionSort lt l.toArray 0 l.length).toList).Perm l∧((Sort.insertionSort lt l.toArray 0 l.length).toList).Pairwise (fun a b=>lt b a=false):=by
 obtain ⟨⟨h1,h2,h3⟩,h4⟩:=Sort.insertionSort_holds hs l.toArray 0 l.length (by omega) (by simp)
 obtain ⟨r,hr⟩:∃ r,r=Sort.insertionSort lt l.toArray 0 l.length:=⟨_,rfl⟩
 rw[← hr] at h1 h2 h3 h4 ⊢
 have hsz:r.size=l.length:=by rw[h1];simp
 refine ⟨?_,?_⟩
 ·have e1:(r.extract 0 l.length).toList=r.toList:=by rw[← hsz];simp
  have e2:(l.toArray.extract 0 l.length).toList=l:=by simp
  rwa [e1,e2] at h3
 ·rw[List.pairwise_iff_getElem]
  intro i j hi hj hij
  have:=h4 i j (by omega) hij (by simpa[hsz] using hj)
  rw[Array.length_toList] at hi hj
  rwa [getElem!_pos r j hj,getElem!_pos r i hi] at this
theorem z5n:∀ {l m:List Power},l.Pairwise (fun a b=>a.V < b.V)→m.Pairwise (fun a b=>a.V < b.V)→(∀ p,p∈l↔p∈m)→l=m
 | [],[],_,_,_=>rfl
 | [],b::m,_,_,h=>by have:=(h b).2 (List.mem_cons_self ..);cases this
 | a::l,[],_,_,h=>by have:=(h a).1 (List.mem_cons_self ..);cases this
 | a::l,b::m,hl,hm,h=>by
  rw[List.pairwise_cons] at hl hm
  have hab:a=b:=by
   rcases List.mem_cons.1 ((h a).1 (List.mem_cons_self ..)) with h1 | h1
   ·exact h1
   ·rcases List.mem_cons.1 ((h b).2 (List.mem_cons_self ..)) with h2 | h2
    ·exact h2.symm
    ·have k1:=hm.1 a h1
     have k2:=hl.1 b h2
     omega
  subst hab
  congr 1
  refine z5n hl.2 hm.2 fun p=>⟨fun hp=>?_,fun hp=>?_⟩
  ·rcases List.mem_cons.1 ((h p).1 (List.mem_cons_of_mem _ hp)) with h1 | h1
   ·have:=hl.1 p hp;rw[h1] at this;omega
   ·exact h1
  ·rcases List.mem_cons.1 ((h p).2 (List.mem_cons_of_mem _ hp)) with h1 | h1
   ·have:=hm.1 p hp;rw[h1] at this;omega
   ·exact h1
theorem zadt {R:Power→Power→Bool} (hi:∀ a,R a a=false) (ha:∀ a b,R a b=true→R b a=false):∀ {l:List Power} {k:Nat} {p:Power},l.Pairwise (fun a b=>R a b=true)→(p∈l.take k↔p∈l∧l.countP (fun q=>R q p) < k)
 | [],k,p,_=>by simp
 | a::l,0,p,_=>by simp
 | a::l,k+1,p,h=>by
  rw[List.pairwise_cons] at h
  rw[List.take_succ_cons,List.mem_cons,List.mem_cons,zadt hi ha h.2,List.countP_cons]
  by_cases hpa:p=a
  ·subst hpa
   have h0:l.countP (fun q=>R q p)=0:=by
    rw[List.countP_eq_zero]
    intro q hq
    rw[ha _ _ (h.1 q hq)];simp
   rw[h0,hi];simp
  ·simp only[hpa,false_or]
   constructor
   ·rintro ⟨h1,h2⟩
    rw[h.1 p h1]
    exact ⟨h1,by simp;omega⟩
   ·rintro ⟨h1,h2⟩
    rw[h.1 p h1] at h2
    simp at h2
    exact ⟨h1,by omega⟩
def z9q (f:Nat→Int) (v u:Nat):Bool:=decide (f u > f v)||(f u==f v&&decide ((u:Int) < v))
def z3c (f:Nat→Int) (v:Nat):Nat:=(List.range 6).countP (z9q f v)
def topF (f:Nat→Int) (v:Nat):Int:=if z3c f v < 4 then f v else 0
theorem zz1 (f:Nat→Int):zku f=(List.range 6).flatMap (fun (v:Nat)=>zyv (v:Int) (f v)):=by
 unfold zku
 rw[List.foldl_append_eq_append,List.nil_append,List.flatMap_def]
theorem mem_oneP {v n:Int} {p:Power}:p∈zyv v n↔0 < n∧p=⟨v,n⟩:=by
 unfold zyv
 by_cases h:0 < n
 ·rw[if_pos h];simp[h]
 ·rw[if_neg h];simp[h]
theorem mem_setOf {f:Nat→Int} {p:Power}:p∈zku f↔∃ v:Nat,v < 6∧0 < f v∧p=⟨v,f v⟩:=by
 rw[zz1,List.mem_flatMap]
 constructor
 ·rintro ⟨v,h1,h2⟩;exact ⟨v,List.mem_range.1 h1,mem_oneP.1 h2⟩
 ·rintro ⟨v,h1,h2⟩;exact ⟨v,List.mem_range.2 h1,mem_oneP.2 h2⟩
theorem zuv (f:Nat→Int):(zku f).Pairwise (fun a b=>a.V < b.V):=by
 rw[zz1,List.pairwise_flatMap]
 refine ⟨fun v _=>?_,?_⟩
 ·unfold zyv;split<;>simp
 ·refine List.Pairwise.imp ?_ (List.pairwise_lt_range (n:=6))
  intro u v huv x hx y hy
  rw[(mem_oneP.1 hx).2,(mem_oneP.1 hy).2]
  show (u:Int) < v
  omega
theorem z5o {p:Power→Bool} {q:Nat→Bool} {g:Nat→List Power}:∀ {l:List Nat},(∀ u,u∈l→(g u).countP p=if q u=true then 1 else 0)→(l.flatMap g).countP p=l.countP q
 | [],_=>rfl
 | u::l,h=>by
  rw[List.flatMap_cons,List.countP_append,h u (List.mem_cons_self ..),z5o fun x hx=>h x (List.mem_cons_of_mem _ hx),List.countP_cons,Nat.add_comm]
theorem z3d {f:Nat→Int} {v:Nat} (hv:0 < f v):(zku f).countP (fun q=>ltL q ⟨v,f v⟩)=z3c f v:=by
 rw[zz1]
 refine z5o fun u _=>?_
 unfold zyv
 by_cases hu:0 < f u
 ·rw[if_pos hu,List.countP_singleton]
  have e:ltL ⟨u,f u⟩ ⟨v,f v⟩=z9q f v u:=rfl
  rw[e]
 ·rw[if_neg hu,List.countP_nil]
  have e:z9q f v u=false:=by
   unfold z9q
   simp only[Bool.or_eq_false_iff,Bool.and_eq_false_iff,yy8,beq_eq_false_iff_ne]
   omega
  rw[e];simp
theorem zamh {f:Nat→Int} (hf:∀ v,0≤f v):∃ l1,z1z ltN (zku f)=some l1∧l1.length≤6∧z1z ltV (l1.take 4)=some (zku (topF f)):=by
 have h6:=z2y f
 have hs:=zuv f
 have e1:Sort.insertionSort ltN (zku f).toArray 0 (zku f).length=Sort.insertionSort ltL (zku f).toArray 0 (zku f).length:=by
  unfold Sort.insertionSort
  refine z9p 0 _ _ 1 _ rfl (by simp) (fun k m hkm h1 hm=>?_)
  rw[List.pairwise_iff_getElem] at hs
  have:=hs k m (by omega) hm hkm
  rwa [getElem!_pos _ m (by simpa using hm),getElem!_pos _ k (by simp;omega)]
 obtain ⟨p1,p2⟩:=zaiu swo_ltL (zku f)
 obtain ⟨l1,hl1⟩:∃ l1,l1=(Sort.insertionSort ltL (zku f).toArray 0 (zku f).length).toList:=⟨_,rfl⟩
 rw[← hl1] at p1 p2
 have hlen:l1.length≤6:=by rw[p1.length_eq];exact h6
 have hnd:(zku f).Pairwise (fun a b=>a.V≠b.V):=hs.imp fun h=>by omega
 have hnd1:l1.Pairwise (fun a b=>a.V≠b.V):=(p1.pairwise_iff (fun h=>Ne.symm h)).2 hnd
 have hL:l1.Pairwise (fun a b=>ltL a b=true):=by
  refine List.Pairwise.imp₂ (R:=fun a b=>a.V≠b.V) (S:=fun a b=>ltL b a=false) ?_ hnd1 p2
  intro a b h1 h2
  rw[z7s] at h2
  rw[zabz];omega
 refine ⟨l1,?_,hlen,?_⟩
 ·unfold z1z
  rw[if_pos (by omega),e1,hl1]
 ·obtain ⟨q1,q2⟩:=zaiu zahc (l1.take 4)
  have h4:(l1.take 4).length≤12:=by rw[List.length_take];omega
  unfold z1z
  rw[if_pos h4]
  congr 1
  obtain ⟨l2,hl2⟩:∃ l2,l2=(Sort.insertionSort ltV (l1.take 4).toArray 0 (l1.take 4).length).toList:=⟨_,rfl⟩
  rw[← hl2] at q1 q2 ⊢
  have hnd2:l2.Pairwise (fun a b=>a.V≠b.V):=(q1.pairwise_iff (fun h=>Ne.symm h)).2 (hnd1.sublist (List.take_sublist _ _))
  refine z5n ?_ (zuv _) ?_
  ·refine List.Pairwise.imp₂ (R:=fun a b=>a.V≠b.V) (S:=fun a b=>ltV b a=false) ?_ hnd2 q2
   intro a b h1 h2
   unfold ltV at h2
   rw[yy8] at h2
   omega
  ·intro p
   rw[q1.mem_iff,zadt swo_ltL.irrefl (fun a b h=>swo_ltL.asymmA h) hL,p1.mem_iff,p1.countP_eq,mem_setOf,mem_setOf]
   constructor
   ·rintro ⟨⟨v,hv,hp,rfl⟩,hc⟩
    rw[z3d hp] at hc
    have e:topF f v=f v:=by unfold topF;rw[if_pos hc]
    exact ⟨v,hv,by rw[e];exact hp,by rw[e]⟩
   ·rintro ⟨v,hv,hp,rfl⟩
    have hc:z3c f v < 4:=by
     unfold topF at hp
     by_cases h:z3c f v < 4
     ·exact h
     ·rw[if_neg h] at hp;omega
    have e:topF f v=f v:=by unfold topF;rw[if_pos hc]
    rw[e] at hp ⊢
    exact ⟨⟨v,hv,hp,rfl⟩,by rw[z3d hp];exact hc⟩
def nvF (s:Stake) (v:Nat):Int:=if s.Validators.Jailed.get v=true then 0 else s.Validators.Tokens.get v / 100
def setS (s:Stake):List Power:=zku (topF (nvF s))
theorem zaxc {s:Stake} (hg:GoodS s) {v:Nat} (hv:v < 6):0≤nvF s v∧nvF s v≤1125899906842624:=by
 have h:=(hg.at (v:=v) (by omega)).1.1
 unfold inA at h
 unfold nvF
 split<;>omega
def cutF (f:Nat→Int) (v:Nat):Int:=if v < 6 then f v else 0
theorem zaiv (f:Nat→Int):zku (cutF f)=zku f:=z21 fun v hv=>by unfold cutF;rw[if_pos hv]
theorem zami (f:Nat→Int) {v:Nat} (hv:v < 6):topF (cutF f) v=topF f v:=by
 have e:∀ u,u < 6→cutF f u=f u:=fun u hu=>by unfold cutF;rw[if_pos hu]
 have e2:z3c (cutF f) v=z3c f v:=by
  unfold z3c
  refine List.countP_congr fun u hu=>?_
  unfold z9q
  rw[e u (List.mem_range.1 hu),e v hv]
 unfold topF
 rw[e2,e v hv]
theorem zarh {x:Int} (h:inA x):i64.wrap (Int.tdiv x 100)=x / 100:=by
 unfold inA at h
 rw[Int.tdiv_eq_ediv_of_nonneg h.1,zm (by omega) (by omega)]
theorem zaxd {s:Stake} (hg:GoodS s):zt8 s=some (setS s):=by
 have key:zoo (vsA s) 0 []=some (zku (nvF s)):=by
  rw[zoo]
  refine zkp (F:=fun s:(A6 zr)×Int×(List Power)=>(zin s.1 s.2.1 s.2.2).run) (List.range 6) 0
   (fun i t=>(vsA s,(i:Int),t)) (fun i t=>t.length≤i) (fun t (v:Nat)=>t++zyv v (nvF s v)) (fun t=>t) ?_ ?_ [] (by simp)
  ·intro t _
   simp only[zin,List.length_range];rw[Tr.rf (by rfl),Tr.rl]
  ·intro i t hi ht
   rw[List.length_range] at hi
   rw[zu1 hi]
   have h1:=z7c i (nvF s i)
   have h2:=(hg.at (v:=i) (by omega)).1.1
   refine ⟨?_,by rw[yy6];omega⟩
   simp only[zin]
   rw[zarf,zare,zarh h2,Tr.rt (by simp;omega),Tr.rg (by omega),Tr.rg (by omega)]
   unfold zyv
   by_cases hj:s.Validators.Jailed.get i=true
   ·have e:nvF s i=0:=by unfold nvF;rw[if_pos hj]
    rw[Tr.rf (by rw[hj];rfl),Tr.rl,e,if_neg (by omega),List.append_nil,zq (by omega)]
   ·have e:nvF s i=s.Validators.Tokens.get i / 100:=by unfold nvF;rw[if_neg hj]
    rw[e]
    by_cases hp:0 < s.Validators.Tokens.get i / 100
    ·rw[if_pos hp,Tr.rt (by simp only[yy7,Bool.not_eq_true',decide_eq_true_eq];exact ⟨by simpa using hj,hp⟩),Tr.rg (by simp only[zar,yy5];omega),Tr.rl,zq (by omega)]
    ·rw[if_neg hp,Tr.rf (by simp only[Bool.and_eq_false_iff,yy8];exact .inr hp),Tr.rl,zq (by omega),List.append_nil]
 have hc:∀ v,0≤cutF (nvF s) v:=by
  intro v
  unfold cutF
  split
  ·rename_i h;exact (zaxc hg h).1
  ·omega
 obtain ⟨l1,h1,h2,h3⟩:=zamh hc
 rw[zaiv] at h1
 rw[z21 (fun v hv=>zami (nvF s) hv)] at h3
 rw[zt8,zw9]
 refine (Tr.rb key).trans ?_
 rw[Tr.rb (show zn8 (zku (nvF s))=some l1 from h1),Tr.rg (by rw[zar];split<;>omega)]
 have e:(l1.drop 0).take ((if 4 < ((l1.length:Nat):Int) then 4 else ((l1.length:Nat):Int)).toNat - 0)=l1.take 4:=by
  rw[List.drop_zero]
  by_cases h:4 < ((l1.length:Nat):Int)
  ·rw[if_pos h];rfl
  ·rw[if_neg h,List.take_of_length_le (by omega),List.take_of_length_le (by omega)]
 rw[e,Tr.rb (show zxx (l1.take 4)=some (zku (topF (nvF s))) from h3),Tr.rl]
 rfl
def zaxe:Validators:=⟨⟨0,0,0,0,0,0⟩,⟨0,0,0,0,0,0⟩,⟨0,0,0,0,0,0⟩,⟨false,false,false,false,false,false⟩,⟨false,false,false,false,false,false⟩⟩
def newS:Stake:=⟨newB,zaxe,⟨⟨0,0,0,0,0,0⟩,⟨0,0,0,0,0,0⟩,⟨0,0,0,0,0,0⟩,⟨0,0,0,0,0,0⟩⟩,[],1⟩
theorem zaiw:GoodS newS:=by decide
theorem zab1:zt0=some newS:=by
 rw[zt0,zw5,Tr.rb zafc,Tr.rl];rfl
theorem z9r (s:Stake) (v k:Int):(zdn s v k).1.Waits=s.Waits:=by
 unfold zdn
 repeat' split
 all_goals rfl
def fP (a:List Power) (v:Nat):Int:=zd7 a v
theorem zamj {a b:List Power} (ha:a.length≤9223372036854775807) (hb:b.length≤9223372036854775807):zed a b=some (zv5 (fP a) (fP b)):=by
 have key:zmw a b 0 []=some (zv5 (fP a) (fP b)):=by
  rw[zmw]
  refine zkp (F:=fun s:(List Power)×(List Power)×Int×(List Power)=>(zg3 s.1 s.2.1 s.2.2.1 s.2.2.2).run) (List.range 6) 0
   (fun i t=>(a,b,(i:Int),t)) (fun i t=>t.length≤i) (fun t (v:Nat)=>t++z2z v (fP b v) (fP a v)) (fun t=>t) ?_ ?_ [] (by simp)
  ·intro t _
   simp only[zg3,List.length_range];rw[Tr.rf (by rfl),Tr.rl]
  ·intro i t hi ht
   rw[List.length_range] at hi
   rw[zu1 hi]
   have h1:=zst i (fP b i) (fP a i)
   refine ⟨?_,by rw[yy6];omega⟩
   simp only[zg3]
   rw[Tr.rt (by simp;omega),Tr.rb (zabp hb),Tr.rb (zabp ha)]
   unfold fP z2z
   by_cases hp:zd7 b i≠zd7 a i
   ·rw[if_pos hp,Tr.rt (by simpa using hp),Tr.rg (by simp only[zar,yy5];omega),Tr.rl,zq (by omega)]
   ·rw[if_neg hp,Tr.rf (by simpa using hp),Tr.rl,zq (by omega),List.append_nil]
 rw[zed,zt7,Tr.rb key,Tr.rl]
def allP (l:List Power):Int:=l.foldl (fun t p=>i64.wrap (t+p.N)) 0
theorem zaom {l:List Power} (hl:l.length≤9223372036854775807):zme l=some (allP l):=by
 have key:zon 0 l l.length 0=some (allP l):=by
  rw[zon]
  refine zkp (F:=fun s:Int×(List Power)×Int×Int=>(zim s.1 s.2.1 s.2.2.1 s.2.2.2).run) l default (fun i t=>(t,l,(l.length:Int),(i:Int))) (fun _ _=>True) (fun t p=>i64.wrap (t+p.N)) (fun t=>t) ?_ ?_ 0 trivial
  ·intro t _
   simp only[zim];rw[Tr.rf (by simp),Tr.rl]
  ·intro i t hi _
   refine ⟨?_,trivial⟩
   simp only[zim]
   rw[yy4,Tr.rt (by simpa using hi),Tr.rg ⟨by omega,by rw[zar];omega⟩,Tr.rl,zq (by omega)]
 rw[zme,zw8,Tr.rb key,Tr.rl]
theorem zrv {α:Type} (a:A6 α) {i j:Int} (y:α) (hi:0≤i∧i < 6) (hj:0≤j∧j < 6):(a.set i y).get j=if j=i then y else a.get j:=by
 obtain rfl | rfl | rfl | rfl | rfl | rfl:j=0∨j=1∨j=2∨j=3∨j=4∨j=5:=by omega
 all_goals
  obtain rfl | rfl | rfl | rfl | rfl | rfl:i=0∨i=1∨i=2∨i=3∨i=4∨i=5:=by omega
  all_goals rfl
theorem zfz {α:Type} (a:A6 α) {i:Int} (y:α) (hi:0≤i∧i < 6):(a.set i y).get i=y:=by rw[zrv a y hi hi,if_pos rfl]
theorem zfl {α:Type} (a:A6 α) {i j:Int} (y:α) (hi:0≤i∧i < 6) (hj:0≤j∧j < 6) (h:j≠i):(a.set i y).get j=a.get j:=by rw[zrv a y hi hj,if_neg h]
theorem z1h (a:A6 Int) {i:Int} (y:Int) (hi:0≤i∧i < 6):sum6 (a.set i y)=sum6 a - a.get i+y:=by
 obtain rfl | rfl | rfl | rfl | rfl | rfl:i=0∨i=1∨i=2∨i=3∨i=4∨i=5:=by omega
 ·show y+a.x1+a.x2+a.x3+a.x4+a.x5=a.x0+a.x1+a.x2+a.x3+a.x4+a.x5 - a.x0+y;omega
 ·show a.x0+y+a.x2+a.x3+a.x4+a.x5=a.x0+a.x1+a.x2+a.x3+a.x4+a.x5 - a.x1+y;omega
 ·show a.x0+a.x1+y+a.x3+a.x4+a.x5=a.x0+a.x1+a.x2+a.x3+a.x4+a.x5 - a.x2+y;omega
 ·show a.x0+a.x1+a.x2+y+a.x4+a.x5=a.x0+a.x1+a.x2+a.x3+a.x4+a.x5 - a.x3+y;omega
 ·show a.x0+a.x1+a.x2+a.x3+y+a.x5=a.x0+a.x1+a.x2+a.x3+a.x4+a.x5 - a.x4+y;omega
 ·show a.x0+a.x1+a.x2+a.x3+a.x4+y=a.x0+a.x1+a.x2+a.x3+a.x4+a.x5 - a.x5+y;omega
theorem z9s (a:A4 (A6 Int)) (d v y:Int):A46.set a d v y=⟨if d=0 then a.x0.set v y else a.x0,if d=1 then a.x1.set v y else a.x1,if d=2 then a.x2.set v y else a.x2,if d=3 then a.x3.set v y else a.x3⟩:=by
 unfold A46.set A6.set
 congr 1
 ·by_cases h:d=0<;>simp[h]
 ·by_cases h:d=1<;>simp[h]
 ·by_cases h:d=2<;>simp[h]
 ·by_cases h:d=3<;>simp[h]
theorem zsx (a:A4 (A6 Int)) {d v d' v':Int} (y:Int) (hd:0≤d∧d < 4) (hv:0≤v∧v < 6) (hd':0≤d'∧d' < 4) (hv':0≤v'∧v' < 6):A46.get (A46.set a d v y) d' v'=if d'=d∧v'=v then y else A46.get a d' v':=by
 have key:∀ (p:Prop) [Decidable p] (r:A6 Int),(if p then r.set v y else r).get v'=if p∧v'=v then y else r.get v':=by
  intro p _ r
  by_cases h:p
  ·rw[if_pos h,zrv r y hv hv'];simp[h]
  ·rw[if_neg h,if_neg (fun x=>h x.1)]
 rw[z9s]
 obtain rfl | rfl | rfl | rfl:d'=0∨d'=1∨d'=2∨d'=3:=by omega
 ·refine (key (d=0) a.x0).trans ?_
  simp only[eq_comm (a:=d)];rfl
 ·refine (key (d=1) a.x1).trans ?_
  simp only[eq_comm (a:=d)];rfl
 ·refine (key (d=2) a.x2).trans ?_
  simp only[eq_comm (a:=d)];rfl
 ·refine (key (d=3) a.x3).trans ?_
  simp only[eq_comm (a:=d)];rfl
theorem zsy {s t:Stake} {v:Int} (hT:t.Validators.Tokens.get v=s.Validators.Tokens.get v) (hS:t.Validators.Shares.get v=s.Validators.Shares.get v) (hL:t.Validators.Lost.get v=s.Validators.Lost.get v)
  (hJ:t.Validators.Jailed.get v=s.Validators.Jailed.get v) (hD:t.Validators.Dead.get v=s.Validators.Dead.get v) (hs:∀ d:Int,0≤d→d < 4→A46.get t.Shares d v=A46.get s.Shares d v) (h:z7m s v):z7m t v:=by
 obtain ⟨h1,h2,h3⟩:=h
 unfold z7m z4p shr
 rw[hT,hS,hL,hJ,hD,hs 0 (by omega) (by omega),hs 1 (by omega) (by omega),hs 2 (by omega) (by omega),hs 3 (by omega) (by omega)]
 exact ⟨h1,fun d hd=>by rw[hs d (by omega) (by omega)];exact h2 d hd,h3⟩
theorem z3e {n n':Int}:∀ {l:List Wait} {p p':Int},zit n p l→n≤n'→p'≤p→zit n' p' l
 | [],_,_,_,_,_=>trivial
 | w::l,p,p',h,hn,hp=>by
  obtain ⟨h1,h2,h3⟩:=h.1
  exact ⟨⟨by omega,by omega,h3⟩,z3e h.2 hn (Int.le_refl _)⟩
theorem z3f {n:Int} {w:Wait} (hw:w.Number=n) (h:0≤w.D∧w.D < 4∧0≤w.V∧w.V < 6∧inA w.Amount∧0≤w.Height∧0≤w.Due):∀ {l:List Wait} {p:Int},p < n→zit n p l→zit (n+1) p (l++[w])
 | [],p,hp,_=>⟨⟨by omega,by omega,h⟩,trivial⟩
 | a::l,p,hp,hl=>by
  obtain ⟨h1,h2,h3⟩:=hl.1
  exact ⟨⟨h1,by omega,h3⟩,z3f hw h (by omega) hl.2⟩
theorem zu6 {n:Int} {f:Wait→Wait} (hf:∀ w,inA w.Amount→(f w).Number=w.Number∧(f w).D=w.D∧(f w).V=w.V∧inA (f w).Amount∧(f w).Height=w.Height∧(f w).Due=w.Due):∀ {l:List Wait} {p:Int},zit n p l→zit n p (l.map f)
 | [],_,_=>trivial
 | w::l,p,h=>by
  obtain ⟨h1,h2,h3,h4,h5,h6,h7,h8,h9⟩:=h.1
  obtain ⟨e1,e2,e3,e4,e5,e6⟩:=hf w h7
  refine ⟨⟨by rw[e1];exact h1,by rw[e1];exact h2,by rw[e2];exact h3,by rw[e2];exact h4,by rw[e3];exact h5,by rw[e3];exact h6,e4,by rw[e5];exact h8,by rw[e6];exact h9⟩,?_⟩
  rw[e1]
  exact zu6 hf h.2
theorem zkr {n:Int} (q:Wait→Bool):∀ {l:List Wait} {p:Int},zit n p l→zit n p (l.filter q)
 | [],_,_=>trivial
 | w::l,p,h=>by
  rw[List.filter_cons]
  split
  ·exact ⟨h.1,zkr q h.2⟩
  ·exact z3e (zkr q h.2) (Int.le_refl _) (Int.le_of_lt h.1.1)
theorem zamk (l m:List Wait):zq6 (l++m)=zq6 l+zq6 m:=by
 induction l with
 | nil=>simp[zq6]
 | cons a l ih=>simp only[List.cons_append,zq6,ih];omega
theorem zab2 (q:Wait→Bool) (l:List Wait):zq6 (l.filter q)+zq6 (l.filter (fun w => !q w))=zq6 l:=by
 induction l with
 | nil=>rfl
 | cons a l ih =>
  rw[List.filter_cons,List.filter_cons]
  cases q a
  ·simp only[Bool.not_false,if_true,zq6];rw[if_neg (by simp)];omega
  ·simp only[Bool.not_true,if_true,zq6];rw[if_neg (by simp)];omega
theorem zadu {b:Bank} {d n:Int} (h:(zrr b d n).2=0):zis (zrr b d n).1∧0≤n∧n≤400000∧(zrr b d n).1.Bonded=b.Bonded+n∧(zrr b d n).1.Waiting=b.Waiting∧(zrr b d n).1.Burnt=b.Burnt:=by
 have k:=zaim (b:=b) (d:=d) (n:=n)
 rcases k with ⟨k,_⟩ | ⟨_,g1,g2,_⟩
 ·exact absurd h k
 have hd:¬ (d < 0∨3 < d):=by
  intro hd
  unfold zrr at h
  rw[if_pos hd] at h;cases h
 have e:zrr b d n=zcb b d 4 n:=by unfold zrr;rw[if_neg hd]
 rw[e] at h g2 ⊢
 obtain ⟨m1,m2,m3,m4,m5⟩:=z7k h
 have m6:=zadn m1 d
 unfold okN at m6
 refine ⟨g2,m2,by omega,?_⟩
 rw[m5]
 obtain rfl | rfl | rfl | rfl:d=0∨d=1∨d=2∨d=3:=by omega
 all_goals simp[zkq,bkA,plA,A7.get,A7.set]
theorem zaix {s:Stake} (hg:GoodS s) {b:Bank} {d v n k:Int} (hd:0≤d∧d < 4) (hv:0≤v∧v < 6) (hb:zis b) (hb1:b.Bonded=s.Bank.Bonded+n) (hb2:b.Waiting=s.Bank.Waiting) (hb3:b.Burnt=s.Bank.Burnt)
  (hn:0≤n∧n≤400000) (hk:1≤k) (hS:s.Validators.Shares.get v+k≤1125899906842624):GoodS (addS s b d v n k):=by
 obtain ⟨g1,g2,g3,g4,g5,g6,g7⟩:=hg
 have hg:GoodS s:=⟨g1,g2,g3,g4,g5,g6,g7⟩
 have htok:=zy1 hg hv
 have o2:okN s.Bank.Bonded:=g1.2.2.2.2.1
 unfold okN at o2
 refine ⟨hb,g2,fun u hu=>?_,g4,?_,?_,?_⟩
 ·have hu':0≤(u:Int)∧(u:Int) < 6:=by omega
  by_cases he:(u:Int)=v
  ·obtain ⟨⟨q1,q2,q3,q4,q5⟩,q6,q7⟩:=hg.at hv
   have hle:=z3a hg hd hv
   have r0:=hg.shr (d:=0) (by omega) hv;have r1:=hg.shr (d:=1) (by omega) hv;have r2:=hg.shr (d:=2) (by omega) hv;have r3:=hg.shr (d:=3) (by omega) hv
   unfold z4p shr at q7
   rw[he]
   have sh:∀ d':Int,0≤d'→d' < 4→A46.get (addS s b d v n k).Shares d' v=if d'=d then A46.get s.Shares d v+k else A46.get s.Shares d' v:=fun d' h0 h1=>by
    show A46.get (A46.set s.Shares d v (A46.get s.Shares d v+k)) d' v=_
    rw[zsx _ _ hd hv ⟨h0,h1⟩ hv]
    by_cases h:d'=d
    ·rw[if_pos ⟨h,rfl⟩,if_pos h]
    ·rw[if_neg (fun x=>h x.1),if_neg h]
   have eT:(addS s b d v n k).Validators.Tokens.get v=s.Validators.Tokens.get v+n:=zfz _ _ hv
   have eS:(addS s b d v n k).Validators.Shares.get v=s.Validators.Shares.get v+k:=zfz _ _ hv
   unfold inA at q1 q2
   refine ⟨⟨?_,?_,q3,?_,q5⟩,fun d' hd'=>?_,?_⟩
   ·rw[eT];unfold inA;omega
   ·rw[eS];unfold inA;omega
   ·rw[eT,eS];omega
   ·unfold shr
    rw[sh d' (by omega) (by omega)]
    split
    ·have:=hg.shr hd hv;unfold inA;omega
    ·exact q6 d' hd'
   ·unfold z4p shr
    rw[eS,sh 0 (by omega) (by omega),sh 1 (by omega) (by omega),sh 2 (by omega) (by omega),sh 3 (by omega) (by omega)]
    obtain rfl | rfl | rfl | rfl:d=0∨d=1∨d=2∨d=3:=by omega
    all_goals
     simp
     omega
  ·refine zsy (zfl _ _ hv hu' he) (zfl _ _ hv hu' he) rfl rfl rfl (fun d' h0 h1=>?_) (g3 u hu)
   show A46.get (A46.set s.Shares d v (A46.get s.Shares d v+k)) d' u=_
   rw[zsx _ _ hd hv ⟨h0,h1⟩ hu',if_neg (fun x=>he x.2)]
 ·show sum6 (s.Validators.Tokens.set v (s.Validators.Tokens.get v+n))=b.Bonded
  rw[z1h _ _ hv,g5,hb1];omega
 ·show zq6 s.Waits=b.Waiting
  rw[hb2];exact g6
 ·show sum6 s.Validators.Lost=b.Burnt
  rw[hb3];exact g7
theorem zab3 {s:Stake} {d v n:Int} (h:(zdh s d v n).2=0):GoodS s∧(0≤d∧d < 4)∧(0≤v∧v < 6)∧s.Validators.Dead.get v≠true∧(1≤n∧n≤400000)∧¬ (s.Validators.Shares.get v≠0∧s.Validators.Tokens.get v=0)∧(zdx s v n).2=0 ∧
  s.Validators.Shares.get v+(zdx s v n).1≤1125899906842624∧1≤(zdx s v n).1∧(zrr s.Bank d n).2=0∧zdh s d v n=(addS s (zrr s.Bank d n).1 d v n (zdx s v n).1,0):=by
 unfold zdh at h ⊢
 by_cases h0:zfk s d v≠0
 ·rw[if_pos h0] at h;exact absurd h h0
 ·rw[if_neg h0] at h ⊢
  obtain ⟨hg,hd,hv⟩:=zl4 (Decidable.not_not.1 h0)
  by_cases h1:s.Validators.Dead.get v=true
  ·rw[if_pos h1] at h;cases h
  ·rw[if_neg h1] at h ⊢
   by_cases h2:n < 1∨1125899906842624 < n
   ·rw[if_pos h2] at h;cases h
   ·rw[if_neg h2] at h ⊢
    by_cases h3:s.Validators.Shares.get v≠0∧s.Validators.Tokens.get v=0
    ·rw[if_pos h3] at h;cases h
    ·rw[if_neg h3] at h ⊢
     by_cases h4:(zdx s v n).2≠0∨1125899906842624 < s.Validators.Shares.get v+(zdx s v n).1
     ·rw[if_pos h4] at h;cases h
     ·rw[if_neg h4] at h ⊢
      by_cases h5:(zdx s v n).1 < 1
      ·rw[if_pos h5] at h;cases h
      ·rw[if_neg h5] at h ⊢
       by_cases h6:(zrr s.Bank d n).2≠0
       ·rw[if_pos h6] at h;exact absurd h h6
       ·rw[if_neg h6]
        have hb:=zadu (Decidable.not_not.1 h6)
        exact ⟨hg,hd,hv,h1,⟨by omega,hb.2.2.1⟩,h3,by omega,by omega,by omega,Decidable.not_not.1 h6,rfl⟩
theorem z7t {s:Stake} {d v n:Int} (h:(zdh s d v n).2=0):GoodS (zdh s d v n).1:=by
 obtain ⟨hg,hd,hv,_,hn,_,_,h1,h2,h3,h4⟩:=zab3 h
 obtain ⟨b1,b2,b3,b4,b5,b6⟩:=zadu h3
 rw[h4]
 exact zaix hg hd hv b1 b4 b5 b6 (by omega) h2 h1
theorem zafh {b:Bank} {n:Int} (h:(zcb b 4 5 n).2=0):zis (zcb b 4 5 n).1∧0≤n∧n≤b.Bonded∧(zcb b 4 5 n).1.Bonded=b.Bonded - n∧(zcb b 4 5 n).1.Waiting=b.Waiting+n∧(zcb b 4 5 n).1.Burnt=b.Burnt:=by
 obtain ⟨m1,m2,m3,m4,m5⟩:=z7k h
 refine ⟨by rw[m5];exact (zo8 (.inr (.inl ⟨rfl,rfl⟩)) m1 m2 m4).1,m2,m4,?_⟩
 rw[m5]
 simp[zkq,bkA,plA,A7.get,A7.set]
theorem z7u {s:Stake} {d v k:Int} {w:Wait} (h:(zcc s d v k w).2=0):GoodS s∧(0≤d∧d < 4)∧(0≤v∧v < 6)∧(1≤k∧k≤A46.get s.Shares d v)∧(0≤w.Height∧0≤w.Due)∧s.Waits.length < 60∧s.Next < 1125899906842624∧1≤zjh s v k ∧
  (zcb s.Bank 4 5 (zjh s v k)).2=0∧zcc s d v k w=(subS s (zcb s.Bank 4 5 (zjh s v k)).1 d v (zjh s v k) k w,0):=by
 unfold zcc at h ⊢
 by_cases h0:zfk s d v≠0
 ·rw[if_pos h0] at h;exact absurd h h0
 ·rw[if_neg h0] at h ⊢
  obtain ⟨hg,hd,hv⟩:=zl4 (Decidable.not_not.1 h0)
  by_cases h1:k < 1∨1125899906842624 < k∨w.Height < 0∨w.Due < 0
  ·rw[if_pos h1] at h;cases h
  ·rw[if_neg h1] at h ⊢
   by_cases h2:A46.get s.Shares d v < k
   ·rw[if_pos h2] at h;cases h
   ·rw[if_neg h2] at h ⊢
    by_cases h3:60≤s.Waits.length∨1125899906842624≤s.Next
    ·rw[if_pos h3] at h;cases h
    ·rw[if_neg h3] at h ⊢
     by_cases h4:zjh s v k < 1
     ·rw[if_pos h4] at h;cases h
     ·rw[if_neg h4] at h ⊢
      by_cases h6:(zcb s.Bank 4 5 (zjh s v k)).2≠0
      ·rw[if_pos h6] at h;exact absurd h h6
      ·rw[if_neg h6]
       exact ⟨hg,hd,hv,by omega,by omega,by omega,by omega,by omega,Decidable.not_not.1 h6,rfl⟩
theorem zaml {s:Stake} (hg:GoodS s) {v k:Int} (hv:0≤v∧v < 6) (h0:0≤k) (h1:k≤s.Validators.Shares.get v):zjh s v k≤s.Validators.Tokens.get v:=by
 obtain ⟨⟨q1,q2,q3,q4,q5⟩,q6,q7⟩:=hg.at hv
 unfold zjh zls
 by_cases h:k < 0∨s.Validators.Tokens.get v < 0∨s.Validators.Shares.get v < 1
 ·rw[if_pos h];exact q1.1
 ·rw[if_neg h]
  have h2:k*s.Validators.Tokens.get v / s.Validators.Shares.get v≤s.Validators.Tokens.get v:=by
   have h3:k*s.Validators.Tokens.get v≤s.Validators.Shares.get v*s.Validators.Tokens.get v:=Int.mul_le_mul_of_nonneg_right h1 q1.1
   have h4:=Int.ediv_le_ediv (c:=s.Validators.Shares.get v) (by omega) h3
   rwa [Int.mul_ediv_cancel_left _ (by omega)] at h4
  split
  ·exact q1.1
  ·exact h2
theorem zafi {s:Stake} (hg:GoodS s) {v k:Int} (hv:0≤v∧v < 6) (h0:1≤k) (h:k=s.Validators.Shares.get v):zjh s v k=s.Validators.Tokens.get v:=z9l h0 (hg.at hv).1.1 h
theorem z3g {s:Stake} {d v k:Int} {w:Wait} (h:(zcc s d v k w).2=0):GoodS (zcc s d v k w).1:=by
 obtain ⟨hg,hd,hv,hk,hw,h60,hN,hn,hm,e⟩:=z7u h
 rw[e]
 obtain ⟨b1,b2,b3,b4,b5,b6⟩:=zafh hm
 have hle:=z3a hg hd hv
 have hwl:=zaml hg hv (by omega) (Int.le_trans hk.2 hle)
 have hall:k=s.Validators.Shares.get v→zjh s v k=s.Validators.Tokens.get v:=fun h=>zafi hg hv hk.1 h
 obtain ⟨b,hb⟩:∃ b,b=(zcb s.Bank 4 5 (zjh s v k)).1:=⟨_,rfl⟩
 obtain ⟨n,hnn⟩:∃ n,n=zjh s v k:=⟨_,rfl⟩
 rw[← hb] at b1 b4 b5 b6 ⊢
 rw[← hnn] at b4 b5 ⊢
 rw[← hnn] at hn b2 b3 hwl hall
 obtain ⟨g1,g2,g3,g4,g5,g6,g7⟩:=id hg
 have o2:okN s.Bank.Bonded:=g1.2.2.2.2.1
 unfold okN at o2
 refine ⟨b1,⟨?_,?_,?_⟩,fun u hu=>?_,?_,?_,?_,?_⟩
 ·show 1≤s.Next+1;omega
 ·show s.Next+1≤_;omega
 ·show (s.Waits++[outW s d v n w]).length≤60
  rw[yy6];simp;omega
 ·have hu':0≤(u:Int)∧(u:Int) < 6:=by omega
  by_cases he:(u:Int)=v
  ·obtain ⟨⟨q1,q2,q3,q4,q5⟩,q6,q7⟩:=hg.at hv
   have r0:=hg.shr (d:=0) (by omega) hv;have r1:=hg.shr (d:=1) (by omega) hv;have r2:=hg.shr (d:=2) (by omega) hv;have r3:=hg.shr (d:=3) (by omega) hv
   unfold z4p shr at q7
   rw[he]
   have sh:∀ d':Int,0≤d'→d' < 4→A46.get (subS s b d v n k w).Shares d' v=if d'=d then A46.get s.Shares d v - k else A46.get s.Shares d' v:=fun d' h0 h1=>by
    show A46.get (A46.set s.Shares d v (A46.get s.Shares d v - k)) d' v=_
    rw[zsx _ _ hd hv ⟨h0,h1⟩ hv]
    by_cases h:d'=d
    ·rw[if_pos ⟨h,rfl⟩,if_pos h]
    ·rw[if_neg (fun x=>h x.1),if_neg h]
   have eT:(subS s b d v n k w).Validators.Tokens.get v=s.Validators.Tokens.get v - n:=zfz _ _ hv
   have eS:(subS s b d v n k w).Validators.Shares.get v=s.Validators.Shares.get v - k:=zfz _ _ hv
   unfold inA at q1 q2
   refine ⟨⟨?_,?_,q3,?_,q5⟩,fun d' hd'=>?_,?_⟩
   ·rw[eT];unfold inA;omega
   ·rw[eS];unfold inA;omega
   ·rw[eT,eS];omega
   ·unfold shr
    rw[sh d' (by omega) (by omega)]
    split
    ·have:=hg.shr hd hv;unfold inA;omega
    ·exact q6 d' hd'
   ·unfold z4p shr
    rw[eS,sh 0 (by omega) (by omega),sh 1 (by omega) (by omega),sh 2 (by omega) (by omega),sh 3 (by omega) (by omega)]
    obtain rfl | rfl | rfl | rfl:d=0∨d=1∨d=2∨d=3:=by omega
    all_goals
     simp
     omega
  ·refine zsy (zfl _ _ hv hu' he) (zfl _ _ hv hu' he) rfl rfl rfl (fun d' h0 h1=>?_) (g3 u hu)
   show A46.get (A46.set s.Shares d v (A46.get s.Shares d v - k)) d' u=_
   rw[zsx _ _ hd hv ⟨h0,h1⟩ hu',if_neg (fun x=>he x.2)]
 ·exact z3f (w:=outW s d v n w) rfl ⟨hd.1,hd.2,hv.1,hv.2,⟨by show 0≤n;omega,by show n≤1125899906842624;omega⟩,hw.1,hw.2⟩ (show (0:Int) < s.Next by have:=g2.1;omega) g4
 ·show sum6 (s.Validators.Tokens.set v (s.Validators.Tokens.get v - n))=b.Bonded
  rw[z1h _ _ hv,g5,b4];omega
 ·show zq6 (s.Waits++[outW s d v n w])=b.Waiting
  rw[zamk,g6,b5]
  show s.Bank.Waiting+(n+0)=_
  omega
 ·show sum6 s.Validators.Lost=b.Burnt
  rw[b6];exact g7
theorem z7v {f:Wait→Wait} (hf:∀ w,(f w).Amount=w.Amount):∀ l:List Wait,zq6 (l.map f)=zq6 l
 | []=>rfl
 | w::l=>by simp only[List.map_cons,zq6,hf,z7v hf l]
theorem z0s {s:Stake} {c h:Int} (hg:GoodS s):GoodS (zp2 s c h):=by
 obtain ⟨g1,g2,g3,g4,g5,g6,g7⟩:=hg
 refine ⟨g1,⟨g2.1,g2.2.1,?_⟩,g3,?_,g5,?_,g7⟩
 ·show (s.Waits.map (relW c h)).length≤60
  rw[List.length_map];exact g2.2.2
 ·exact zu6 (f:=relW c h) (fun w hw=>⟨rfl,rfl,rfl,hw,rfl,rfl⟩) g4
 ·show zq6 (s.Waits.map (relW c h))=_
  rw[z7v (f:=relW c h) (fun _=>rfl)];exact g6
theorem zadv {s:Stake} {v what:Int} (h:(zdn s v what).2=0):GoodS s∧(0≤v∧v < 6)∧¬ (what=0∧s.Validators.Jailed.get v=true)∧¬ (0 < what∧s.Validators.Dead.get v=true)∧¬ (what=1∧s.Validators.Jailed.get v=false) ∧
  zdn s v what=(zzz s v (what != 1) (what==2),0):=by
 unfold zdn at h ⊢
 by_cases h0:zfk s 0 v≠0
 ·rw[if_pos h0] at h;exact absurd h h0
 ·rw[if_neg h0] at h ⊢
  obtain ⟨hg,hd,hv⟩:=zl4 (Decidable.not_not.1 h0)
  by_cases h1:what=0∧s.Validators.Jailed.get v=true
  ·rw[if_pos h1] at h;cases h
  ·rw[if_neg h1] at h ⊢
   by_cases h2:0 < what∧s.Validators.Dead.get v=true
   ·rw[if_pos h2] at h;cases h
   ·rw[if_neg h2] at h ⊢
    by_cases h3:what=1∧s.Validators.Jailed.get v=false
    ·rw[if_pos h3] at h;cases h
    ·rw[if_neg h3]
     exact ⟨hg,hv,h1,h2,h3,rfl⟩
theorem zaiy {s:Stake} {v what:Int} (h:(zdn s v what).2≠0):(zdn s v what).1=s:=by
 unfold zdn at h ⊢
 repeat' split
 all_goals first | rfl | skip
 rename_i h0 h1 h2 h3
 rw[if_neg h0,if_neg h1,if_neg h2,if_neg h3] at h
 exact absurd rfl h
theorem zafj {s:Stake} {v what:Int} (hw:what=0∨what=1∨what=2) (h:(zdn s v what).2=0):GoodS (zdn s v what).1:=by
 obtain ⟨hg,hv,h1,h2,h3,e⟩:=zadv h
 rw[e]
 obtain ⟨g1,g2,g3,g4,g5,g6,g7⟩:=id hg
 refine ⟨g1,g2,fun u hu=>?_,g4,g5,g6,g7⟩
 have hu':0≤(u:Int)∧(u:Int) < 6:=by omega
 by_cases he:(u:Int)=v
 ·obtain ⟨⟨q1,q2,q3,q4,q5⟩,q6,q7⟩:=hg.at hv
  rw[he]
  have eJ:(zzz s v (what != 1) (what==2)).Validators.Jailed.get v=(what != 1):=zfz _ _ hv
  have eD:(zzz s v (what != 1) (what==2)).Validators.Dead.get v=(what==2):=zfz _ _ hv
  refine ⟨⟨q1,q2,q3,q4,?_⟩,q6,q7⟩
  rw[eJ,eD]
  rcases hw with rfl | rfl | rfl<;>simp
 ·exact zsy (s:=s) rfl rfl rfl (zfl _ _ hv hu' he) (zfl _ _ hv hu' he) (fun _ _ _=>rfl) (g3 u hu)
theorem z3h (time:Int):∀ (l:List Wait) (b:Bank) (L:List Wait) (P:List Int),l.foldl (payF time) (b,L,P)=((l.filter (dueW time)).foldl (fun b w=>(z7j b w.D w.Amount).1) b,L++l.filter (fun w => !dueW time w),P++(l.filter (dueW time)).map (·.Number))
 | [],b,L,P=>by simp
 | w::l,b,L,P=>by
  rw[List.foldl_cons,List.filter_cons,List.filter_cons]
  by_cases h:dueW time w=true
  ·have e:payF time (b,L,P) w=((z7j b w.D w.Amount).1,L,P++[w.Number]):=by unfold payF;rw[if_pos h]
   rw[e,z3h time l,if_pos h,if_neg (by simp[h]),List.foldl_cons,List.map_cons,List.append_assoc]
   rfl
  ·have e:payF time (b,L,P) w=(b,L++[w],P):=by unfold payF;rw[if_neg h]
   rw[e,z3h time l,if_neg h,if_pos (by simpa using h),List.append_assoc]
   rfl
def zab4 (s:Stake) (time:Int):Bank:=(s.Waits.filter (dueW time)).foldl (fun b w=>(z7j b w.D w.Amount).1) s.Bank
theorem zaiz {s:Stake} (hg:GoodS s) (time:Int):z5m s time=({ s with Bank:=zab4 s time,Waits:=s.Waits.filter (fun w => !dueW time w) },(s.Waits.filter (dueW time)).map (·.Number),0):=by
 unfold z5m zab4
 rw[if_neg (by simpa using hg),z3h]
 simp only[List.nil_append]
theorem z9t:∀ {l:List Wait} {b:Bank} {n p:Int},zit n p l→zis b→zq6 l≤b.Waiting →
  zis (l.foldl (fun b w=>(z7j b w.D w.Amount).1) b)∧(l.foldl (fun b w=>(z7j b w.D w.Amount).1) b).Waiting=b.Waiting - zq6 l∧(l.foldl (fun b w=>(z7j b w.D w.Amount).1) b).Bonded=b.Bonded∧(l.foldl (fun b w=>(z7j b w.D w.Amount).1) b).Burnt=b.Burnt
 | [],b,n,p,_,hb,_=>⟨hb,by show b.Waiting=b.Waiting - 0;omega,rfl,rfl⟩
 | w::l,b,n,p,hw,hb,hs=>by
  obtain ⟨_,_,d0,d1,_,_,ha,_,_⟩:=hw.1
  have hn:=zrt hw.2
  simp only[zq6] at hs
  obtain ⟨_,p2,p3,p4,p5⟩:=zaiq hb ⟨d0,d1⟩ ha (by omega)
  obtain ⟨k1,k2,k3,k4⟩:=z9t hw.2 p2 (by rw[p3];omega)
  rw[List.foldl_cons]
  refine ⟨k1,?_,k3.trans p4,k4.trans p5⟩
  rw[k2,p3]
  simp only[zq6];omega
theorem zamm {s:Stake} (hg:GoodS s) (time:Int):zis (zab4 s time)∧(zab4 s time).Waiting=zq6 (s.Waits.filter (fun w => !dueW time w))∧(zab4 s time).Bonded=s.Bank.Bonded∧(zab4 s time).Burnt=s.Bank.Burnt:=by
 have h1:=zab2 (dueW time) s.Waits
 have h2:=zrt (zkr (fun w => !dueW time w) hg.2.2.2.1)
 have h3:=hg.2.2.2.2.2.1
 obtain ⟨k1,k2,k3,k4⟩:=z9t (zkr (dueW time) hg.2.2.2.1) hg.1 (by omega)
 exact ⟨k1,by unfold zab4;rw[k2];omega,k3,k4⟩
theorem zadw {s:Stake} (hg:GoodS s) (time:Int):GoodS (z5m s time).1:=by
 rw[zaiz hg]
 obtain ⟨k1,k2,k3,k4⟩:=zamm hg time
 obtain ⟨g1,g2,g3,g4,g5,g6,g7⟩:=hg
 refine ⟨k1,⟨g2.1,g2.2.1,?_⟩,g3,zkr _ g4,?_,?_,?_⟩
 ·exact Nat.le_trans (List.length_filter_le _ _) g2.2.2
 ·rw[k3];exact g5
 ·exact k2.symm
 ·rw[k4];exact g7
theorem zai0 (v h f:Int):∀ (l:List Wait) (t:Int),l.foldl (fun t w=>t+slN v h f w) t=t+(zq6 l - zq6 (l.map (slW v h f)))
 | [],t=>by simp[zq6]
 | w::l,t=>by
  rw[List.foldl_cons,zai0 v h f l,List.map_cons]
  simp only[zq6]
  have:(slW v h f w).Amount=w.Amount - slN v h f w:=by
   unfold slW slN
   split
   ·rfl
   ·omega
  rw[this];omega
theorem zadx {s:Stake} {v h f:Int} (hs:(ziu s v h f).2.2=0):GoodS s∧(0≤v∧v < 6)∧(0≤f∧f≤1000)∧0≤zfy s v f∧zfy s v f≤s.Validators.Tokens.get v∧0≤z7q v h f s.Waits∧z7q v h f s.Waits≤s.Bank.Waiting ∧
  ziu s v h f=(⟨⟨s.Bank.Free,s.Bank.Bonded - zfy s v f,s.Bank.Waiting - z7q v h f s.Waits,s.Bank.Burnt+zfy s v f+z7q v h f s.Waits⟩,{ s.Validators with Tokens:=s.Validators.Tokens.set v (s.Validators.Tokens.get v - zfy s v f),Lost:=s.Validators.Lost.set v (s.Validators.Lost.get v+(zfy s v f+z7q v h f s.Waits)) },s.Shares,s.Waits.map (slW v h f),s.Next⟩,zfy s v f+z7q v h f s.Waits,0) ∧
  zis ⟨s.Bank.Free,s.Bank.Bonded - zfy s v f,s.Bank.Waiting - z7q v h f s.Waits,s.Bank.Burnt+zfy s v f+z7q v h f s.Waits⟩:=by
 unfold ziu at hs ⊢
 by_cases h0:zfk s 0 v≠0
 ·rw[if_pos h0] at hs;exact absurd hs h0
 ·rw[if_neg h0] at hs ⊢
  obtain ⟨hg,hd,hv⟩:=zl4 (Decidable.not_not.1 h0)
  by_cases hf:f < 0∨1000 < f
  ·rw[if_pos hf] at hs;cases hs
  ·rw[if_neg hf]
   have hf':0≤f∧f≤1000:=by omega
   obtain ⟨_,b2,b3⟩:=zru (hg.at hv).1.1 hf'
   obtain ⟨s1,s2⟩:=zait hg (v:=v) (h:=h) hf'
   obtain ⟨k1,k2⟩:=zadr hg.1 b2 (Int.le_trans b3 (zy1 hg hv).1) s1 s2
   refine ⟨hg,hv,hf',b2,b3,s1,s2,?_,?_⟩
   ·unfold zfy;rw[k1]
   ·rw[k1] at k2;exact k2
theorem zai1 {s:Stake} {v h f:Int} (hs:(ziu s v h f).2.2≠0):(ziu s v h f).1=s∧(ziu s v h f).2.1=0:=by
 unfold ziu at hs ⊢
 split
 ·exact ⟨rfl,rfl⟩
 ·split
  ·exact ⟨rfl,rfl⟩
  ·rename_i h0 h1
   rw[if_neg h0,if_neg h1] at hs
   exact absurd rfl hs
theorem zafk {s:Stake} {v h f:Int} (hs:(ziu s v h f).2.2=0):GoodS (ziu s v h f).1:=by
 obtain ⟨hg,hv,hf,b1,b2,s1,s2,e,hb⟩:=zadx hs
 rw[e]
 obtain ⟨x,hx⟩:∃ x,x=zfy s v f:=⟨_,rfl⟩
 obtain ⟨y,hy⟩:∃ y,y=z7q v h f s.Waits:=⟨_,rfl⟩
 have hsum:y=zq6 s.Waits - zq6 (s.Waits.map (slW v h f)):=by
  rw[hy];unfold z7q;rw[zai0];omega
 have hall:zfy s v f≤s.Validators.Tokens.get v:=b2
 rw[← hx] at b1 b2 hb ⊢
 rw[← hy] at s1 s2 hb ⊢
 obtain ⟨g1,g2,g3,g4,g5,g6,g7⟩:=id hg
 have htok:=zy1 hg hv
 have o2:okN (s.Bank.Burnt+x+y):=hb.2.2.2.2.2.2.1
 unfold okN at o2
 refine ⟨hb,⟨g2.1,g2.2.1,?_⟩,fun u hu=>?_,?_,?_,?_,?_⟩
 ·show (s.Waits.map (slW v h f)).length≤60
  rw[List.length_map];exact g2.2.2
 ·have hu':0≤(u:Int)∧(u:Int) < 6:=by omega
  by_cases he:(u:Int)=v
  ·obtain ⟨⟨q1,q2,q3,q4,q5⟩,q6,q7⟩:=hg.at hv
   rw[he]
   unfold inA at q1 q3
   refine ⟨⟨?_,q2,?_,?_,q5⟩,q6,q7⟩
   ·show inA ((s.Validators.Tokens.set v (s.Validators.Tokens.get v - x)).get v)
    rw[zfz _ _ hv];unfold inA;omega
   ·show inA ((s.Validators.Lost.set v (s.Validators.Lost.get v+(x+y))).get v)
    rw[zfz _ _ hv];unfold inA;omega
   ·show ¬ (s.Validators.Shares.get v=0∧0 < (s.Validators.Tokens.set v (s.Validators.Tokens.get v - x)).get v)
    rw[zfz _ _ hv];omega
  ·exact zsy (zfl _ _ hv hu' he) rfl (zfl _ _ hv hu' he) rfl rfl (fun _ _ _=>rfl) (g3 u hu)
 ·refine zu6 (fun w hw=>?_) g4
  have hp:=zru hw hf
  unfold slW
  split
  ·exact ⟨rfl,rfl,rfl,⟨by show 0≤w.Amount - _;omega,by show w.Amount - _≤_;unfold inA at hw;omega⟩,rfl,rfl⟩
  ·exact ⟨rfl,rfl,rfl,hw,rfl,rfl⟩
 ·show sum6 (s.Validators.Tokens.set v (s.Validators.Tokens.get v - x))=s.Bank.Bonded - x
  rw[z1h _ _ hv,g5];omega
 ·show zq6 (s.Waits.map (slW v h f))=s.Bank.Waiting - y
  omega
 ·show sum6 (s.Validators.Lost.set v (s.Validators.Lost.get v+(x+y)))=s.Bank.Burnt+x+y
  rw[z1h _ _ hv,g7];omega
theorem zamn {s:Stake} (hg:GoodS s) {p:Power} (h:p∈setS s):(0≤p.V∧p.V < 6)∧s.Validators.Jailed.get p.V=false∧p.N=s.Validators.Tokens.get p.V / 100∧1≤p.N:=by
 obtain ⟨v,hv,h1,rfl⟩:=mem_setOf.1 h
 have e:topF (nvF s) v=nvF s v:=by
  unfold topF at h1 ⊢
  split
  ·rfl
  ·rename_i hn;rw[if_neg hn] at h1;omega
 rw[e] at h1
 have hj:s.Validators.Jailed.get v=false:=by
  unfold nvF at h1
  cases hj:s.Validators.Jailed.get v
  ·rfl
  ·rw[hj,if_pos rfl] at h1;omega
 refine ⟨by show 0≤(v:Int)∧(v:Int) < 6;omega,hj,?_,by show 1≤topF (nvF s) v;rw[e];omega⟩
 show topF (nvF s) v=_
 rw[e]
 unfold nvF
 rw[hj];rfl
theorem z5p {s:Stake} (hg:GoodS s) {d v:Int} (hd:0≤d∧d < 4) (hv:0≤v∧v < 6):zfk s d v=0:=by
 unfold zfk
 rw[if_neg (by simpa using hg),if_neg (by omega)]
def Kept (s t:Stake) (e:Int):Prop :=
 GoodS t∧(e≠0→t=s)∧s.Bank.Burnt≤t.Bank.Burnt∧∀ v:Int,0≤v→v < 6→(s.Validators.Dead.get v=true→t.Validators.Dead.get v=true)∧s.Validators.Lost.get v≤t.Validators.Lost.get v
theorem Kept.same {s:Stake} (hg:GoodS s) (e:Int):Kept s s e:=⟨hg,fun _=>rfl,Int.le_refl _,fun _ _ _=>⟨id,Int.le_refl _⟩⟩
theorem zafl {s:Stake} (hg:GoodS s) (v:Int) {what:Int} (hw:what=0∨what=1∨what=2):Kept s (zdn s v what).1 (zdn s v what).2:=by
 by_cases h:(zdn s v what).2=0
 ·have hga:=zafj hw h
  obtain ⟨_,hv,h1,h2,h3,e⟩:=zadv h
  rw[e] at hga ⊢
  refine ⟨hga,fun h=>absurd rfl h,Int.le_refl _,fun u h0 h6=>⟨fun hd=>?_,Int.le_refl _⟩⟩
  show (s.Validators.Dead.set v (what==2)).get u=true
  rw[zrv _ _ hv ⟨h0,h6⟩]
  split
  ·rename_i huv
   rw[huv] at hd
   rcases hw with rfl | rfl | rfl
   ·have:=(hg.at hv).1.2.2.2.2
    cases hj:s.Validators.Jailed.get v
    ·exact absurd ⟨hd,hj⟩ this
    ·exact absurd ⟨rfl,hj⟩ h1
   ·exact absurd ⟨by omega,hd⟩ h2
   ·rfl
  ·exact hd
 ·rw[zaiy h];exact .same hg _
theorem zafm {s:Stake} (hg:GoodS s) (v h f:Int):Kept s (ziu s v h f).1 (ziu s v h f).2.2:=by
 by_cases hs:(ziu s v h f).2.2=0
 ·have hga:=zafk hs
  obtain ⟨_,hv,hf,b1,b2,s1,s2,e,hb⟩:=zadx hs
  rw[e] at hga ⊢
  refine ⟨hga,fun h=>absurd rfl h,by show _≤s.Bank.Burnt+zfy s v f+z7q v h f s.Waits;omega,fun u h0 h6=>⟨id,?_⟩⟩
  show _≤(s.Validators.Lost.set v (s.Validators.Lost.get v+(zfy s v f+z7q v h f s.Waits))).get u
  rw[zrv _ _ hv ⟨h0,h6⟩]
  split
  ·rename_i huv;rw[huv];omega
  ·exact Int.le_refl _
 ·rw[(zai1 hs).1];exact .same hg _
def zkx (r:Ripe):Bool:=decide (1≤r.Id)&&decide (r.Id≤1099511627776)&&decide (0≤r.Due)
def znf (p:Packet):Bool:=(p.Kind==1)&&(zef p==0)
def zab5 (c:zb):Prop:=(c.On&&c.Gone)=false∧0≤c.Height∧c.Height < 1099511627776∧0≤c.Time∧c.Time≤1099511627776∧0≤c.Id∧c.Id≤1099511627776
instance (c:zb):Decidable (zab5 c):=inferInstanceAs (Decidable (_∧_))
def zks (c:zb):Bool:=decide (zab5 c)&&decide (zep c.Out)&&z6 1 (-1) c.Set&&c.Ripes.all zkx&&c.Pending.all znf
structure FitC (R:Nat) (c:zb):Prop where
 set:c.Set.length*16≤R
 pend:c.Pending.length*80≤R
 ripes:c.Ripes.length*16≤R
 said:c.Out.Said.length*16≤R
 due:c.Out.Due.length*8≤R
 ps:∀ p,p∈c.Pending→p.Set.length*16≤R∧p.Done.length*8≤R
theorem FitC.mono {R S:Nat} {c:zb} (h:FitC R c) (hr:R≤S):FitC S c :=
 ⟨Nat.le_trans h.set hr,Nat.le_trans h.pend hr,Nat.le_trans h.ripes hr,Nat.le_trans h.said hr,Nat.le_trans h.due hr,fun p hp=>⟨Nat.le_trans (h.ps p hp).1 hr,Nat.le_trans (h.ps p hp).2 hr⟩⟩
theorem zafn {l:List Power} (h:l.length*16≤140737488355328):zei l=some l:=by
 rw[zei,zet]
 refine Tr.run_split (fun h0=>?_) (fun _=>?_) (.inr trivial)
 ·rw[Tr.rl,List.length_eq_zero_iff.1 h0]
 ·rw[Tr.rg (by simp only[zar,List.length_nil];omega),Tr.rl]
theorem zafo {l:List Packet} (h:l.length*80≤140737488355328):za8 l=some l:=by
 rw[za8,zej]
 refine Tr.run_split (fun h0=>?_) (fun _=>?_) (.inr trivial)
 ·rw[Tr.rl,List.length_eq_zero_iff.1 h0]
 ·rw[Tr.rg (by simp only[zeo,List.length_nil];omega),Tr.rl]
theorem zafp {l:List Ripe} (h:l.length*16≤140737488355328):zew l=some l:=by
 rw[zew,zfs]
 refine Tr.run_split (fun h0=>?_) (fun _=>?_) (.inr trivial)
 ·rw[Tr.rl,List.length_eq_zero_iff.1 h0]
 ·rw[Tr.rg (by simp only[zjs,List.length_nil];omega),Tr.rl]
theorem zamo {l:List Packet} (hl:l.length≤9223372036854775807) (hp:∀ p,p∈l→p.Set.length*16≤140737488351232∧p.Done.length*8≤140737488351232) :
  zbu l=some (!l.all znf):=by
 obtain ⟨r,h1,h2⟩:=zhj (F:=fun s:(List Packet)×Int×Int=>(zaj s.1 s.2.1 s.2.2).run) l.length
  (fun i (_:Unit)=>(l,(l.length:Int),(i:Int))) (fun i _=>True) (fun i _ r=>match r with | .inl k=>0≤k∧(l.drop i).all znf=false | .inr _=>(l.drop i).all znf=true) (by
   intro t _
   refine ⟨.inr (),?_,?_⟩
   ·simp only[zaj];rw[Tr.rf (by simp),Tr.rl]
   ·rw[List.drop_length];rfl) (by
   intro i t hi _
   have hs:=zbj (l:=l) (k:=i) hi default
   have hm:=zgv (l:=l) (k:=i) hi default
   obtain ⟨p1,p2⟩:=hp _ hm
   simp only[zaj,yy4]
   rw[Tr.rt (by simpa using hi),Tr.rg ⟨by omega,by rw[zeo];omega⟩,Tr.rb (v := !znf (l.getD i default)) (by
    rw[zpv,zlb,Tr.rb (zyx p1 p2),Tr.rl]
    unfold znf
    congr 1
    rw[Bool.not_and,Bool.or_comm];rfl),hs]
   simp only[List.all_cons]
   obtain ⟨b,hb⟩:∃ b,b=znf (l.getD i default):=⟨_,rfl⟩
   rw[← hb]
   cases b with
   | true =>
    refine .inl ⟨(),?_,trivial,?_⟩
    ·rw[Tr.rf (show (!true)=false from rfl),Tr.rl,zq (by omega)]
    ·intro r hr
     cases r with
     | inl x=>exact ⟨hr.1,by rw[hr.2];rfl⟩
     | inr x=>rw[Bool.true_and];exact hr
   | false =>
    refine .inr ⟨.inl i,?_,by omega,by rfl⟩
    rw[Tr.rt (show (!false)=true from rfl),Tr.rl]) 0 () (by omega) trivial
 have h1:zee l l.length 0=some r:=h1
 rw[zbu,zb4]
 cases r with
 | inl k =>
  simp only[List.drop_zero] at h2
  rw[Tr.rb (v:=k) (by rw[zci,zbk,Tr.ri h1,Tr.rl]),Tr.rl,h2.2]
  simp[h2.1]
 | inr k =>
  simp only[List.drop_zero] at h2
  rw[Tr.rb (v := -1) (by rw[zci,zbk,Tr.rj h1,Tr.rl]),Tr.rl,h2]
  rfl
theorem zamp {c:zb} (hl:c.Set.length≤9223372036854775807) :
  ∃ r,zop c.Set c.Set.length 0 c=some r∧(match r with | .inl b=>b=false∧z6 1 (-1) c.Set=false | .inr x=>x=c∧z6 1 (-1) c.Set=true):=by
 have:=zr7 (F:=fun s:(List Power)×Int×Int×zb=>(zgr s.1 s.2.1 s.2.2.1 s.2.2.2).run)
  (fun s=>s.1=c.Set∧s.2.1=c.Set.length∧0≤s.2.2.1∧s.2.2.1≤c.Set.length∧s.2.2.2=c ∧ -1≤zgx c.Set s.2.2.1∧(0 < s.2.2.1→0≤zgx c.Set s.2.2.1)) (fun s=>c.Set.length - s.2.2.1.toNat)
  (fun s r=>match r with | .inl b=>b=false∧z6 1 (zgx c.Set s.2.2.1) (c.Set.drop s.2.2.1.toNat)=false | .inr x=>x=c∧z6 1 (zgx c.Set s.2.2.1) (c.Set.drop s.2.2.1.toNat)=true) ?_ (c.Set,(c.Set.length:Int),0,c) ⟨rfl,rfl,by simp,by simp,rfl,by simp[zgx],by simp⟩
 ·exact this
 ·rintro ⟨x0,x1,x2,x3⟩ ⟨h1,h2,h3,h4,h5,h6,h7⟩
  simp only at h1 h2 h3 h4 h5 h6 h7
  subst h5
  rw[h1,h2] at *
  simp only[zgr]
  by_cases hc:x2 < x3.Set.length
  ·have hs:=zbj (l:=x3.Set) (k:=x2.toNat) (by omega) default
   rw[Tr.rt (by simpa using hc),Tr.rg ⟨h3,hc⟩,Tr.rg (by
    intro h _
    simp only[decide_eq_true_eq] at h
    rw[zm (x:=x2 - 1) (by omega) (by omega)]
    exact ⟨⟨by omega,by simp only[Sl.len];omega⟩,trivial⟩)]
   rw[hs]
   have hp:(decide (x2 > 0)&&decide ((x3.Set.getD (i64.wrap (x2 - 1)).toNat default).V≥(x3.Set.getD x2.toNat default).V))=(decide (x2 > 0)&&decide (zgx x3.Set x2≥(x3.Set.getD x2.toNat default).V)):=by
    by_cases h0:x2 > 0
    ·rw[zm (x:=x2 - 1) (by omega) (by omega)]
     unfold zgx
     rw[if_neg (by omega)]
    ·simp[h0]
   rw[hp]
   generalize hq:x3.Set.getD x2.toNat default=q at *
   by_cases hd:zgx x3.Set x2 < q.V∧q.V≤5∧1≤q.N∧q.N≤1125899906842624
   ·obtain ⟨d1,d2,d3,d4⟩:=hd
    have hw:i64.wrap (x2+1)=x2+1:=zm (by omega) (by omega)
    have hpv:zgx x3.Set (x2+1)=q.V:=by unfold zgx;rw[if_neg (by omega),show x2+1 - 1=x2 by omega,hq]
    refine .inl ⟨_,by rw[Tr.rf (by simp;omega),Tr.rl,hw],⟨rfl,rfl,?_,?_,rfl,?_,?_⟩,?_,?_⟩
    ·simp only[];omega
    ·simp only[];omega
    ·simp only[];rw[hpv];omega
    ·simp only[];rw[hpv];intro _;omega
    ·simp only[];omega
    ·simp only[]
     rw[hpv,show (x2+1).toNat=x2.toNat+1 by omega]
     intro r hr
     rw[z6,decide_eq_true d1,decide_eq_true d2,decide_eq_true d3,decide_eq_true d4]
     simpa using hr
   ·refine .inr ⟨_,by rw[Tr.rt (by
     by_cases h0:x2 > 0
     ·have:=h7 h0
      simp[h0];omega
     ·have:zgx x3.Set x2 = -1:=by unfold zgx;rw[if_pos (by omega)]
      simp[h0];omega),Tr.rl],?_⟩
    refine ⟨rfl,?_⟩
    rw[z6]
    simp only[Bool.and_eq_false_iff,yy8]
    omega
  ·refine .inr ⟨_,by rw[Tr.rf (by simpa using hc),Tr.rl],?_⟩
   refine ⟨rfl,?_⟩
   rw[List.drop_eq_nil_of_le (by omega)];rfl
theorem z9u (r:Ripe):(((decide (r.Id < 1))||(decide (r.Id > 1099511627776)))||(decide (r.Due < 0))) = !zkx r:=by
 unfold zkx
 rw[Bool.eq_iff_iff]
 simp only[Bool.or_eq_true,Bool.not_eq_true',Bool.and_eq_false_iff,decide_eq_true_eq,yy8]
 omega
theorem zafq {l:List Ripe} {c:zb} (hl:l.length≤9223372036854775807) :
  zja l l.length 0 c=some (if l.all zkx=true then .inr c else .inl false):=by
 rw[zja]
 refine zyu (F:=fun s:(List Ripe)×Int×Int×zb=>(zcx s.1 s.2.1 s.2.2.1 s.2.2.2).run) l default (fun i=>(l,(l.length:Int),(i:Int),c)) zkx false c ?_ ?_ ?_
 ·simp only[zcx];rw[Tr.rf (by simp),Tr.rl]
 ·intro i hi hp
  simp only[zcx,yy4,z9u]
  rw[Tr.rt (by simpa using hi),Tr.rg ⟨by omega,by rw[zjs];omega⟩,Tr.rf (by rw[hp];rfl),Tr.rl,zq (by omega)]
 ·intro i hi hp
  simp only[zcx,yy4,z9u]
  rw[Tr.rt (by simpa using hi),Tr.rg ⟨by omega,by rw[zjs];omega⟩,Tr.rt (by rw[hp];rfl),Tr.rl]
theorem zai2 (c:zb):(((((((c.On&&c.Gone)||(decide (c.Height < 0)))||(decide (c.Height≥1099511627776)))||(decide (c.Time < 0)))||(decide (c.Time > 1099511627776)))||(decide (c.Id < 0)))||(decide (c.Id > 1099511627776))) = !decide (zab5 c):=by
 rw[Bool.eq_iff_iff]
 rw[Bool.not_eq_true',yy8]
 unfold zab5
 generalize (c.On&&c.Gone)=b
 cases b<;>simp only[Bool.or_eq_true,decide_eq_true_eq,reduceCtorEq,true_or,false_or,false_and,true_and,not_false_eq_true,iff_true]<;>omega
theorem zsz {c:zb} (h:FitC 140737488351232 c):zd9 c=some (zks c):=by
 have e1:=h.set;have e2:=h.pend;have e3:=h.ripes
 rw[zd9,zoq]
 simp only[zai2,zzw,Option.isSome_some,yy2]
 rw[Tr.rg (by simp)]
 unfold zks
 by_cases h1:zab5 c
 ·by_cases h2:zep c.Out
  ·rw[Tr.rf (by simp[h1,h2]),decide_eq_true h1,decide_eq_true h2]
   obtain ⟨r,f1,f2⟩:=zamp (c:=c) (by omega)
   cases r with
   | inl b=>rw[Tr.ri f1,Tr.rl,f2.1,f2.2];rfl
   | inr x =>
    rw[Tr.rj f1,f2.1,f2.2]
    have f3:=zafq (l:=c.Ripes) (c:=c) (by omega)
    by_cases h4:c.Ripes.all zkx=true
    ·rw[if_pos h4] at f3
     rw[Tr.rj f3,Tr.rb (zamo (by omega) h.ps),Tr.rl,h4]
     simp
    ·rw[if_neg h4] at f3
     rw[Tr.ri f3,Tr.rl]
     simp[h4]
  ·rw[Tr.rt (by simp[h2]),Tr.rl,decide_eq_false h2]
   simp
 ·rw[Tr.rt (by simp[h1]),Tr.rl,decide_eq_false h1]
  simp
theorem zady {l:List Power} {v:Int} (hl:l.length≤9223372036854775807):zaf l v=some (zd7 l v):=by
 obtain ⟨r,h1,h2⟩:=zhj (F:=fun s:Int×(List Power)×Int×Int=>(zds s.1 s.2.1 s.2.2.1 s.2.2.2).run) l.length
  (fun i (_:Unit)=>(v,l,(l.length:Int),(i:Int))) (fun i _=>True) (fun i _ r=>match r with | .inl x=>zd7 (l.drop i) v=x | .inr _=>zd7 (l.drop i) v=0) (by
   intro t _
   refine ⟨.inr (),?_,?_⟩
   ·simp only[zds];rw[Tr.rf (by simp),Tr.rl]
   ·rw[List.drop_length];rfl) (by
   intro i t hi _
   have hs:=zbj (l:=l) (k:=i) hi default
   simp only[zds,yy4]
   rw[Tr.rt (by simpa using hi),Tr.rg ⟨by omega,by rw[zar];omega⟩,hs]
   by_cases hv:(l.getD i default).V=v
   ·exact .inr ⟨.inl (l.getD i default).N,by rw[Tr.rt (by rw[hv];simp),Tr.rl],by simp only[zd7];rw[if_pos hv]⟩
   ·refine .inl ⟨(),by rw[Tr.rf (by simpa using hv),Tr.rl,zq (by omega)],trivial,?_⟩
    intro r hr
    simp only[zd7]
    rw[if_neg hv]
    exact hr) 0 () (by omega) trivial
 have h1:zna v l l.length 0=some r:=h1
 simp only[List.drop_zero] at h2
 rw[zaf,zmy]
 cases r with
 | inl x=>rw[Tr.ri h1,Tr.rl,← h2]
 | inr x=>rw[Tr.rj h1,Tr.rl,h2]
