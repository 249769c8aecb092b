/-
  The plain lemmas.
-/
import Derived.Test.YtiacgjebngnddaaGreatXAbC
import Derived.Test.YtiacgjebngnddaaGreatXAbPlain
import Derived.Test.YtiacgjebngnddaaGreatXAbSort2
import Derived.Sort.LotA
import Derived.Test.YtiacgjebngnddaaGreatXFBank
import Derived.Test.YtiacgjebngnddaaGreatXFCodec
import Derived.Test.YtiacgjebngnddaaGreatXFCons
import Derived.Test.YtiacgjebngnddaaGreatXFLine
import Derived.Test.YtiacgjebngnddaaGreatXFRatio
import Derived.Test.YtiacgjebngnddaaGreatXFStakeA
import Derived.Test.YtiacgjebngnddaaGreatXFStakeB
namespace Go.Proofs.YtiacgjebngnddaaGreat.Ab
open Go Go.RowKit
open Go.IntKind (i64 u64)
set_option linter.unusedSimpArgs false
set_option linter.unusedVariables false
theorem zgh {σ ρ τ:Type} {F:σ→Option (σ⊕ρ)} (n:Nat) (mk:Nat→τ→σ) (I:Nat→τ→Prop) (R:Nat→τ→ρ→Prop)
  (hend:∀ t,I n t→∃ r,F (mk n t)=some (.inr r)∧R n t r)
  (hstep:∀ i t,i < n→I i t→(∃ t',F (mk i t)=some (.inl (mk (i+1) t'))∧I (i+1) t'∧∀ r,R (i+1) t' r→R i t r)∨∃ r,F (mk i t)=some (.inr r)∧R i t r) :
  ∀ i t,i≤n→I i t→∃ r,zdv F (mk i t)=some r∧R i t r:=by
 have key:∀ k i t,n - i < k→i≤n→I i t→∃ r,zdv F (mk i t)=some r∧R i t r:=by
  intro k
  induction k with
  | zero=>intro i t h;omega
  | succ k ih =>
   intro i t hk hi hI
   rw[zqn]
   by_cases h:i < n
   ·rcases hstep i t h hI with ⟨t',h1,h2,h3⟩ | ⟨r,h1,h2⟩
    ·rw[h1]
     obtain ⟨r,k1,k2⟩:=ih (i+1) t' (by omega) (by omega) h2
     exact ⟨r,k1,h3 r k2⟩
    ·rw[h1];exact ⟨r,rfl,h2⟩
   ·obtain rfl:i=n:=by omega
    obtain ⟨r,h1,h2⟩:=hend t hI
    rw[h1];exact ⟨r,rfl,h2⟩
 exact fun i t=>key _ i t (Nat.lt_succ_self _)
theorem zms {σ ρ τ:Type} {F:σ→Option (σ⊕ρ)} (n:Nat) (mk:Nat→τ→σ) (I:Nat→τ→Prop) (g:Nat→τ→ρ)
  (hend:∀ t,I n t→F (mk n t)=some (.inr (g n t)))
  (hstep:∀ i t,i < n→I i t→(∃ t',F (mk i t)=some (.inl (mk (i+1) t'))∧I (i+1) t'∧g (i+1) t'=g i t)∨F (mk i t)=some (.inr (g i t))) :
  ∀ i t,i≤n→I i t→zdv F (mk i t)=some (g i t):=by
 intro i t hi hI
 obtain ⟨r,h1,h2⟩:=zgh n mk I (fun i t r=>r=g i t) (fun t h=>⟨_,hend t h,rfl⟩)
  (fun i t h hI=>(hstep i t h hI).imp (fun ⟨t',h1,h2,h3⟩=>⟨t',h1,h2,fun r hr=>hr.trans h3⟩) (fun h=>⟨_,h,rfl⟩)) i t hi hI
 rw[h1,h2]
theorem zajw {σ α β γ:Type} {F:σ→Option (σ⊕(β⊕γ))} (l:List α) (d:α) (mk:Nat→σ) (p:α→Bool) (bad:β) (out:γ)
  (hend:F (mk l.length)=some (.inr (.inr out))) (hok:∀ i,i < l.length→p (l.getD i d)=true→F (mk i)=some (.inl (mk (i+1))))
  (hbad:∀ i,i < l.length→p (l.getD i d)=false→F (mk i)=some (.inr (.inl bad))):zdv F (mk 0)=some (if l.all p=true then .inr out else .inl bad):=by
 have:=zms (F:=F) l.length (fun i (_:Unit)=>mk i) (fun _ _=>True) (fun i _=>if (l.drop i).all p=true then .inr out else .inl bad) (by
   intro t _
   rw[hend,List.drop_length];rfl) (by
   intro i t hi _
   have hs:l.drop i=l.getD i d::l.drop (i+1):=by
    rw[List.drop_eq_getElem_cons hi,yy0,yy3 hi];rfl
   cases hp:p (l.getD i d) with
   | true=>exact .inl ⟨(),hok i hi hp,trivial,by rw[hs,List.all_cons,hp,Bool.true_and]⟩
   | false=>exact .inr (by rw[hbad i hi hp,hs,List.all_cons,hp,Bool.false_and];rfl)) 0 () (Nat.zero_le _) trivial
 rwa [List.drop_zero] at this
theorem zjf {σ ρ τ α:Type} {F:σ→Option (σ⊕ρ)} (l:List α) (d:α) (mk:Nat→τ→σ) (I:Nat→τ→Prop) (g:τ→α→τ) (out:τ→ρ)
  (hend:∀ t,I l.length t→F (mk l.length t)=some (.inr (out t)))
  (hstep:∀ i t,i < l.length→I i t→F (mk i t)=some (.inl (mk (i+1) (g t (l.getD i d))))∧I (i+1) (g t (l.getD i d))) (t:τ) (h0:I 0 t) :
  zdv F (mk 0 t)=some (out (l.foldl g t)):=by
 have:=zms (F:=F) l.length mk I (fun i t=>out ((l.drop i).foldl g t)) (by
   intro t ht
   rw[hend t ht,List.drop_length];rfl) (by
   intro i t hi ht
   have hs:l.drop i=l.getD i d::l.drop (i+1):=by
    rw[List.drop_eq_getElem_cons hi,yy0,yy3 hi];rfl
   obtain ⟨h1,h2⟩:=hstep i t hi ht
   exact .inl ⟨_,h1,h2,by rw[hs,List.foldl_cons]⟩) 0 t (Nat.zero_le _) h0
 rwa [List.drop_zero] at this
theorem zcj {σ ρ:Type} {F:σ→Option (σ⊕ρ)} {s s':σ} (h:F s=some (.inl s')):zdv F s=zdv F s':=by rw[zqn,h]
theorem zew {σ ρ:Type} {F:σ→Option (σ⊕ρ)} {s:σ} {r:ρ} (h:F s=some (.inr r)):zdv F s=some r:=by rw[zqn,h]
theorem zv {i:Nat} (h:i+1≤9223372036854775807):i64.wrap ((i:Int)+1)=((i+1:Nat):Int):=by
 rw[zj (by omega) (by omega)];omega
theorem zbd (l:List Power):Sl.len (.powers l)=l.length:=rfl
theorem znz (l:List Int):Sl.len (.ints l)=l.length:=rfl
theorem zfq (l:List Packet):Sl.len (.packets l)=l.length:=rfl
theorem zlb (l:List Ripe):Sl.len (.ripes l)=l.length:=rfl
theorem z7x (l:List UInt8):Sl.len (.bytes l)=l.length:=rfl
theorem za0 {α:Type} {l:List α} {k:Nat} (h:k < l.length) (d:α):l.drop k=l.getD k d::l.drop (k+1):=by
 rw[List.drop_eq_getElem_cons h,yy0,yy3 h];rfl
theorem zdg {α:Type} {l:List α} {k:Nat} (h:k < l.length) (d:α):l.getD k d∈l:=by
 rw[yy0,yy3 h];exact List.getElem_mem h
def zdr:List Power→Int→Int
 | [],_=>0
 | p::l,v=>if p.V=v then p.N else zdr l v
def z7y (d:List Power) (v n:Int):Int:=d.foldl (fun n p=>if p.V=v then p.N else n) n
def zxc (v n:Int):List Power:=if 0 < n then [⟨v,n⟩] else []
def zjn (f:Nat→Int):List Power:=(List.range 6).foldl (fun t (v:Nat)=>t++zxc (v:Int) (f v)) []
def zxd (a d:List Power):List Power:=zjn (fun v=>z7y d v (zdr a v))
theorem z5v (v n:Int):(zxc v n).length≤1:=by unfold zxc;split<;>simp
theorem z1d (f:Nat→Int):(zjn f).length≤6:=by
 have h:∀ (l:List Nat) (t:List Power),(l.foldl (fun t (v:Nat)=>t++zxc v (f v)) t).length≤t.length+l.length:=by
  intro l
  induction l with
  | nil=>intro t;simp
  | cons a l ih =>
   intro t
   have h1:=ih (t++zxc a (f a))
   have h2:=z5v a (f a)
   simp only[List.foldl_cons,yy6,List.length_cons] at h1 ⊢
   omega
 have:=h (List.range 6) []
 simpa[zjn] using this
theorem zaaf {l:List Power} {v:Int} (hl:l.length≤9223372036854775807):zi6 l v=some (zdr l v):=by
 obtain ⟨r,h1,h2⟩:=zgh (F:=fun s:Int×(List Power)×Int×Int=>(zf9 s.1 s.2.1 s.2.2.1 s.2.2.2).run) l.length
  (fun i (_:Unit)=>(v,l,(l.length:Int),(i:Int))) (fun i _=>True) (fun i _ r=>match r with | .inl x=>zdr (l.drop i) v=x | .inr _=>zdr (l.drop i) v=0) (by
   intro t _
   refine ⟨.inr (),?_,?_⟩
   ·simp only[zf9];rw[Tr.rf (by simp),Tr.rl]
   ·rw[List.drop_length];rfl) (by
   intro i t hi _
   have hs:=za0 (l:=l) (k:=i) hi default
   simp only[zf9,yy4]
   rw[Tr.rt (by simpa using hi),Tr.rg ⟨by omega,by rw[zbd];omega⟩,hs]
   by_cases hv:(l.getD i default).V=v
   ·exact .inr ⟨.inl (l.getD i default).N,by rw[Tr.rt (by rw[hv];simp),Tr.rl],by simp only[zdr];rw[if_pos hv]⟩
   ·refine .inl ⟨(),by rw[Tr.rf (by simpa using hv),Tr.rl,zv (by omega)],trivial,?_⟩
    intro r hr
    simp only[zdr]
    rw[if_neg hv]
    exact hr) 0 () (by omega) trivial
 have h1:zru v l l.length 0=some r:=h1
 simp only[List.drop_zero] at h2
 rw[zi6,zst]
 cases r with
 | inl x=>rw[Tr.ri h1,Tr.rl,← h2]
 | inr x=>rw[Tr.rj h1,Tr.rl,h2]
theorem zajx {a d acc:List Power} {v n w:Int} (hl:d.length≤9223372036854775807) :
  zj2 a d v n w d d.length 0 acc=some (a,d,v,z7y d v n,w,acc):=by
 rw[zj2]
 refine zjf (F:=fun s:(List Power)×(List Power)×Int×Int×Int×(List Power)×Int×Int×(List Power)=>(zfh s.1 s.2.1 s.2.2.1 s.2.2.2.1 s.2.2.2.2.1 s.2.2.2.2.2.1 s.2.2.2.2.2.2.1 s.2.2.2.2.2.2.2.1 s.2.2.2.2.2.2.2.2).run) d default
  (fun i n=>(a,d,v,n,w,d,(d.length:Int),(i:Int),acc)) (fun _ _=>True) (fun n p=>if p.V=v then p.N else n) (fun n=>(a,d,v,n,w,acc)) ?_ ?_ n trivial
 ·intro t _
  simp only[zfh];rw[Tr.rf (by simp),Tr.rl]
 ·intro i t hi _
  refine ⟨?_,trivial⟩
  simp only[zfh,yy4]
  rw[Tr.rt (by simpa using hi),Tr.rg ⟨by omega,by rw[zbd];omega⟩]
  by_cases hv:(d.getD i default).V=v
  ·rw[if_pos hv,Tr.rt (by rw[hv];simp),Tr.rl,zv (by omega)]
  ·rw[if_neg hv,Tr.rf (by simpa using hv),Tr.rl,zv (by omega)]
theorem ztm {i n:Nat} (h:i < n):(List.range n).getD i 0=i:=by
 rw[yy0,List.getElem?_range h];rfl
theorem zajy {a d:List Power} (ha:a.length≤9223372036854775807) (hd:d.length≤9223372036854775807):zo8 a d=some (zxd a d):=by
 have key:zj3 a d 0 []=some (zxd a d):=by
  rw[zj3]
  refine zjf (F:=fun s:(List Power)×(List Power)×Int×(List Power)=>(zfi s.1 s.2.1 s.2.2.1 s.2.2.2).run) (List.range 6) 0
   (fun i t=>(a,d,(i:Int),t)) (fun i t=>t.length≤i) (fun t (v:Nat)=>t++zxc v (z7y d v (zdr a v))) (fun t=>t) ?_ ?_ [] (by simp)
  ·intro t _
   simp only[zfi,List.length_range];rw[Tr.rf (by rfl),Tr.rl]
  ·intro i t hi ht
   rw[List.length_range] at hi
   rw[ztm hi]
   have h1:=z5v i (z7y d i (zdr a i))
   refine ⟨?_,by rw[yy6];omega⟩
   simp only[zfi]
   rw[Tr.rt (by simp;omega),Tr.rb (zaaf ha),Tr.rb (zajx hd)]
   simp only[]
   unfold zxc
   by_cases hp:0 < z7y d i (zdr a i)
   ·rw[if_pos hp,Tr.rt (by simpa using hp),Tr.rg (by simp only[zbd,yy5];omega),Tr.rl,zv (by omega)]
   ·rw[if_neg hp,Tr.rf (by simpa using hp),Tr.rl,zv (by omega),List.append_nil]
 rw[zo8,zrb,Tr.rb key,Tr.rl]
def z1e (v x y:Int):List Power:=if x≠y then [⟨v,x⟩] else []
def zur (f g:Nat→Int):List Power:=(List.range 6).foldl (fun t (v:Nat)=>t++z1e (v:Int) (g v) (f v)) []
theorem z5w (f:Nat→Int):zjn f=zxc ((0:Nat):Int) (f 0)++(zxc ((1:Nat):Int) (f 1)++(zxc ((2:Nat):Int) (f 2)++(zxc ((3:Nat):Int) (f 3)++(zxc ((4:Nat):Int) (f 4)++(zxc ((5:Nat):Int) (f 5)++[]))))):=by
 show ((((([]++zxc ((0:Nat):Int) (f 0))++zxc ((1:Nat):Int) (f 1))++zxc ((2:Nat):Int) (f 2))++zxc ((3:Nat):Int) (f 3))++zxc ((4:Nat):Int) (f 4))++zxc ((5:Nat):Int) (f 5)=_
 simp only[List.nil_append,List.append_nil,List.append_assoc]
theorem z1f (f g:Nat→Int):zur f g=z1e ((0:Nat):Int) (g 0) (f 0)++(z1e ((1:Nat):Int) (g 1) (f 1)++(z1e ((2:Nat):Int) (g 2) (f 2)++(z1e ((3:Nat):Int) (g 3) (f 3)++(z1e ((4:Nat):Int) (g 4) (f 4)++(z1e ((5:Nat):Int) (g 5) (f 5)++[]))))):=by
 show ((((([]++z1e ((0:Nat):Int) (g 0) (f 0))++z1e ((1:Nat):Int) (g 1) (f 1))++z1e ((2:Nat):Int) (g 2) (f 2))++z1e ((3:Nat):Int) (g 3) (f 3))++z1e ((4:Nat):Int) (g 4) (f 4))++z1e ((5:Nat):Int) (g 5) (f 5)=_
 simp only[List.nil_append,List.append_nil,List.append_assoc]
theorem z1g {f g:Nat→Int} (h:∀ v,v < 6→f v=g v):zjn f=zjn g:=by
 rw[z5w,z5w,h 0 (by omega),h 1 (by omega),h 2 (by omega),h 3 (by omega),h 4 (by omega),h 5 (by omega)]
theorem zre (w x y:Int):(z1e w x y).length≤1:=by unfold z1e;split<;>simp
theorem zadz (f g:Nat→Int):(zur f g).length≤6:=by
 have h0:=zre ((0:Nat):Int) (g 0) (f 0);have h1:=zre ((1:Nat):Int) (g 1) (f 1);have h2:=zre ((2:Nat):Int) (g 2) (f 2)
 have h3:=zre ((3:Nat):Int) (g 3) (f 3);have h4:=zre ((4:Nat):Int) (g 4) (f 4);have h5:=zre ((5:Nat):Int) (g 5) (f 5)
 rw[z1f]
 simp only[yy6,List.length_nil]
 omega
def zd4 (l:zgz):Prop:=l.Said.length=l.Due.length∧l.Said.length≤400∧0≤l.Got∧l.Got≤l.Said.length∧l.Due.any (fun d=>decide (d < 0))=false
instance (l:zgz):Decidable (zd4 l):=inferInstanceAs (Decidable (_∧_))
def negs (l:List Int) (k:Nat):Bool:=(l.drop k).any (fun d=>decide (d < 0))
theorem zajz {l:List Int} {k:Nat} (h:l.length≤k):negs l k=false:=by
 unfold negs;rw[List.drop_eq_nil_of_le h];rfl
theorem zagj {l:List Int} {k:Nat} (h:k < l.length):negs l k=(decide (l.getD k 0 < 0)||negs l (k+1)):=by
 unfold negs
 rw[List.drop_eq_getElem_cons h,List.any_cons,yy0,yy3 h]
 rfl
theorem zaj0 {l:List Int} (hl:l.length≤9223372036854775807):∃ r,zgx l l.length 0=some r∧(match r with | .inl k=>0≤k∧negs l 0=true | .inr _=>negs l 0=false):=by
 have:=zqs (F:=fun s:(List Int)×Int×Int=>(zb9 s.1 s.2.1 s.2.2).run)
  (fun s=>s.1=l∧s.2.1=l.length∧0≤s.2.2∧s.2.2≤l.length) (fun s=>l.length - s.2.2.toNat)
  (fun s r=>match r with | .inl k=>0≤k∧negs l s.2.2.toNat=true | .inr _=>negs l s.2.2.toNat=false) ?_ (l,(l.length:Int),0) ⟨rfl,rfl,by simp,by simp⟩
 ·exact this
 ·rintro ⟨x0,x1,x2⟩ ⟨h1,h2,h3,h4⟩
  simp only at h1 h2 h3 h4
  subst h1;subst h2
  simp only[zb9]
  by_cases hc:x2 < x0.length
  ·rw[Tr.rt (by simpa using hc),Tr.rg ⟨h3,hc⟩,Tr.rb (v:=decide (x0.getD x2.toNat 0 < 0)) (by rw[zuh,zq3,Tr.rl])]
   have hs:=zagj (l:=x0) (k:=x2.toNat) (by omega)
   by_cases hd:x0.getD x2.toNat 0 < 0
   ·refine .inr ⟨_,by rw[Tr.rt (by simpa using hd),Tr.rl],?_⟩
    exact ⟨h3,by rw[hs,decide_eq_true hd];rfl⟩
   ·refine .inl ⟨_,by rw[Tr.rf (by simpa using hd),Tr.rl],⟨rfl,rfl,?_,?_⟩,?_,?_⟩
    ·simp only[];rw[zj (by omega) (by omega)];omega
    ·simp only[];rw[zj (by omega) (by omega)];omega
    ·simp only[];rw[zj (by omega) (by omega)];omega
    ·simp only[]
     rw[zj (by omega) (by omega),show (x2+1).toNat=x2.toNat+1 by omega]
     intro r hr
     rw[hs,decide_eq_false hd,Bool.false_or]
     exact hr
  ·refine .inr ⟨_,by rw[Tr.rf (by simpa using hc),Tr.rl],?_⟩
   exact zajz (by omega)
theorem zaag {l:List Int} (hl:l.length≤9223372036854775807):zdn l=some (negs l 0):=by
 obtain ⟨r,h1,h2⟩:=zaj0 hl
 rw[zdn,zd9]
 cases r with
 | inl k =>
  rw[Tr.rb (v:=k) (by rw[zfa,zdf,Tr.ri h1,Tr.rl]),Tr.rl,h2.2]
  simp[h2.1]
 | inr k =>
  rw[Tr.rb (v := -1) (by rw[zfa,zdf,Tr.rj h1,Tr.rl]),Tr.rl,h2]
  rfl
theorem zaj1 {l:zgz}:zd4 l↔(l.Said.length=l.Due.length∧l.Said.length≤400∧0≤l.Got∧l.Got≤l.Said.length)∧negs l.Due 0=false :=
 ⟨fun h=>⟨⟨h.1,h.2.1,h.2.2.1,h.2.2.2.1⟩,h.2.2.2.2⟩,fun h=>⟨h.1.1,h.1.2.1,h.1.2.2.1,h.1.2.2.2,h.2⟩⟩
theorem zx9 (l:zgz):zdy l=some (decide (zd4 l)):=by
 rw[zdy,zvk]
 by_cases hc:l.Said.length=l.Due.length∧l.Said.length≤400∧0≤l.Got∧l.Got≤l.Said.length
 ·obtain ⟨h1,h2,h3,h4⟩:=hc
  rw[Tr.rf (by simp;omega),Tr.rb (zaag (by omega)),Tr.rl]
  congr 1
  rw[Bool.eq_iff_iff,decide_eq_true_iff,zaj1,Bool.not_eq_true']
  exact ⟨fun h=>⟨⟨h1,h2,h3,h4⟩,h⟩,fun h=>h.2⟩
 ·rw[Tr.rt (by simp;omega),Tr.rl]
  congr 1
  symm
  simp only[yy8]
  intro h
  exact hc ⟨h.1,h.2.1,h.2.2.1,h.2.2.2.1⟩
theorem zagk {l:List ByteArray} (h:l.length≤400):zb2 l=some l:=by
 rw[zb2,zf6]
 refine Tr.run_split (fun h0=>?_) (fun _=>?_) (.inr trivial)
 ·rw[Tr.rl,List.length_eq_zero_iff.1 h0]
 ·rw[Tr.rg (by simp only[Sl.len,List.length_nil];omega),Tr.rl]
theorem z7z {l:List Int} (h:l.length≤400):z5 l=some l:=by
 rw[z5,ziw]
 refine Tr.run_split (fun h0=>?_) (fun _=>?_) (.inr trivial)
 ·rw[Tr.rl,List.length_eq_zero_iff.1 h0]
 ·rw[Tr.rg (by simp only[Sl.len,List.length_nil];omega),Tr.rl]
def z5x (l:zgz) (s:ByteArray) (u:Int):zgz×Int :=
 if ¬ zd4 l∨u < 0 then (l,2) else if l.Closed=true then (l,11) else if 400≤l.Said.length then (l,6)
 else ({ l with Said:=l.Said++[s],Due:=l.Due++[u] },0)
theorem zame (l:zgz) (s:ByteArray) (u:Int):zq5 l s u=some (z5x l s u):=by
 rw[zq5,zx4,Tr.rb (zx9 l)]
 unfold z5x
 by_cases hg:¬ zd4 l∨u < 0
 ·rw[Tr.rt (by simpa using hg),Tr.rl,if_pos hg]
 ·rw[Tr.rf (by simpa using hg),if_neg hg,Tr.run_ite]
  simp only[not_or,Decidable.not_not] at hg
  obtain ⟨⟨h1,h2,h3,h4,h5⟩,h6⟩:=hg
  by_cases hcl:l.Closed=true
  ·rw[if_pos hcl,if_pos hcl,Tr.rl]
  ·rw[if_neg hcl,if_neg hcl]
   by_cases hn:400≤l.Said.length
   ·rw[Tr.rt (by simp;omega),Tr.rl,if_pos hn]
   ·have e1:=zagk (l:=l.Said) (by omega)
    have e2:=z7z (l:=l.Due) (by omega)
    rw[Tr.rf (by simp;omega),if_neg hn,e1,e2,Tr.rg Option.isSome_some,Tr.rg (by simp only[yy2,Sl.len,yy5];omega),Tr.rg Option.isSome_some,Tr.rg (by simp only[yy2,Sl.len,yy5];omega),Tr.rl]
    rfl
def zmm (l:zgz) (k:Int) (s:ByteArray) (said time:Int):zgz×Int :=
 if ¬ zd4 l then (l,2) else if l.Closed=true then (l,11) else if k≠l.Got+1 then (l,10)
 else if said < k∨(l.Said.length:Int) < k∨(l.Said.getD l.Got.toNat .empty).toList≠s.toList then (l,9)
 else if l.Due.getD l.Got.toNat 0≤time then (l,12) else ({ l with Got:=k },0)
theorem z3u (l:zgz) (k:Int) (s:ByteArray) (said time:Int):zg l k s said time=some (zmm l k s said time):=by
 rw[zg,zo3,Tr.rb (zx9 l)]
 unfold zmm
 by_cases hg:zd4 l
 ·rw[Tr.rf (by simpa using hg),if_neg (by simpa using hg),Tr.run_ite]
  obtain ⟨h1,h2,h3,h4,h5⟩:=hg
  by_cases hcl:l.Closed=true
  ·rw[if_pos hcl,if_pos hcl,Tr.rl]
  ·rw[if_neg hcl,if_neg hcl,zj (x:=l.Got+1) (by omega) (by omega)]
   by_cases hk:k=l.Got+1
   ·rw[Tr.rf (by simpa using hk),if_neg (by simpa using hk),zj (x:=k - 1) (by omega) (by omega),show k - 1=l.Got by omega]
    by_cases hs:said < k∨(l.Said.length:Int) < k
    ·rw[Tr.rg (by intro h;simp at h;omega),Tr.rt (by simp;omega),Tr.rl,if_pos (by rcases hs with h | h<;>simp[h])]
    ·rw[Tr.rg (by intro h;simp only[Sl.len];exact ⟨⟨h3,by omega⟩,trivial⟩)]
     by_cases he:(l.Said.getD l.Got.toNat .empty).toList=s.toList
     ·rw[Tr.rf (by rw[he];simp;omega),Tr.rg (by simp only[Sl.len];exact ⟨h3,by omega⟩),if_neg (by simp only[not_or,Decidable.not_not];exact ⟨by omega,by omega,he⟩)]
      by_cases ht:l.Due.getD l.Got.toNat 0≤time
      ·rw[Tr.rt (by simpa using ht),Tr.rl,if_pos ht]
      ·rw[Tr.rf (by simpa using ht),Tr.rl,if_neg ht]
     ·rw[Tr.rt (by simp only[Bool.or_eq_true,Bool.not_eq_true',beq_eq_false_iff_ne];exact .inr he),Tr.rl,if_pos (.inr (.inr he))]
   ·rw[Tr.rt (by simpa using hk),Tr.rl,if_pos (by simpa using hk)]
 ·rw[Tr.rt (by simpa using hg),Tr.rl,if_pos hg]
def zya (l:zgz) (k time got:Int):zgz×Int :=
 if ¬ zd4 l then (l,2) else if l.Closed=true then (l,11) else if k < 1∨(l.Said.length:Int) < k then (l,4)
 else if k≤got then (l,5) else if time < l.Due.getD (k - 1).toNat 0 then (l,13) else ({ l with Closed:=true },0)
theorem z70 (l:zgz) (k time got:Int):zkl l k time got=some (zya l k time got):=by
 rw[zkl,zq6,Tr.rb (zx9 l)]
 unfold zya
 by_cases hg:zd4 l
 ·rw[Tr.rf (by simpa using hg),if_neg (by simpa using hg),Tr.run_ite]
  obtain ⟨h1,h2,h3,h4,h5⟩:=hg
  by_cases hcl:l.Closed=true
  ·rw[if_pos hcl,if_pos hcl,Tr.rl]
  ·rw[if_neg hcl,if_neg hcl]
   by_cases hk:k < 1∨(l.Said.length:Int) < k
   ·rw[Tr.rt (by simpa using hk),Tr.rl,if_pos hk]
   ·rw[Tr.rf (by simpa using hk),if_neg hk]
    by_cases hgt:k≤got
    ·rw[Tr.rt (by simpa using hgt),Tr.rl,if_pos hgt]
    ·rw[Tr.rf (by simpa using hgt),if_neg hgt,zj (x:=k - 1) (by omega) (by omega),Tr.rg (by simp only[Sl.len];exact ⟨by omega,by omega⟩)]
     by_cases ht:time < l.Due.getD (k - 1).toNat 0
     ·rw[Tr.rt (by simpa using ht),Tr.rl,if_pos ht]
     ·rw[Tr.rf (by simpa using ht),Tr.rl,if_neg ht]
 ·rw[Tr.rt (by simpa using hg),Tr.rl,if_pos hg]
theorem zad0 {l:zgz} {k:Int} {s:ByteArray} {said time:Int} (h:(zmm l k s said time).2=0) :
  zd4 l∧¬ l.Closed=true∧k=l.Got+1∧k≤l.Said.length∧(l.Said.getD l.Got.toNat .empty).toList=s.toList∧time < l.Due.getD l.Got.toNat 0∧zmm l k s said time=({ l with Got:=k },0):=by
 unfold zmm at h ⊢
 by_cases h1:¬ zd4 l
 ·rw[if_pos h1] at h;cases h
 rw[if_neg h1] at h ⊢
 by_cases h2:l.Closed=true
 ·rw[if_pos h2] at h;cases h
 rw[if_neg h2] at h ⊢
 by_cases h3:k≠l.Got+1
 ·rw[if_pos h3] at h;cases h
 rw[if_neg h3] at h ⊢
 by_cases h4:said < k∨(l.Said.length:Int) < k∨(l.Said.getD l.Got.toNat .empty).toList≠s.toList
 ·rw[if_pos h4] at h;cases h
 rw[if_neg h4] at h ⊢
 by_cases h5:l.Due.getD l.Got.toNat 0≤time
 ·rw[if_pos h5] at h;cases h
 rw[if_neg h5]
 simp only[not_or,Decidable.not_not] at h1 h3 h4
 exact ⟨h1,h2,h3,by omega,h4.2.2,by omega,rfl⟩
def zw (m:Int):Int→List Power→Bool
 | _,[]=>true
 | p,q::l=>decide (p < q.V)&&decide (q.V≤5)&&decide (m≤q.N)&&decide (q.N≤1125899906842624)&&zw m q.V l
def zal:Int→List Int→Bool
 | _,[]=>true
 | p,q::l=>decide (p < q)&&decide (q≤5)&&zal q l
def zca (p:Packet):Int :=
 if p.Kind < 1∨4 < p.Kind then 3
 else if (p.Id < 1∨1099511627776 < p.Id)∨(3≤p.Kind∧(p.V < 0∨5 < p.V∨p.N < 1∨1125899906842624 < p.N)) then 2
 else if (p.Kind≤2∧(p.V≠0∨p.N≠0))∨(p.Kind≠1∧(0 < p.Set.length∨0 < p.Done.length)) then 1
 else if zw 0 (-1) p.Set=false then 2
 else if zal (-1) p.Done=false then 2
 else 0
def zf3 (l:List Power) (i:Int):Int:=if i=0 then -1 else (l.getD (i - 1).toNat default).V
def zmn (l:List Int) (i:Int):Int:=if i=0 then -1 else l.getD (i - 1).toNat 0
theorem zagl {l:List Power} {m:Int} (hl:l.length≤9223372036854775807):zm3 l m=some (zw m (-1) l):=by
 have key:∃ r,zog l m l l.length 0=some r∧(match r with | .inl b=>b=false∧zw m (-1) l=false | .inr _=>zw m (-1) l=true):=by
  have:=zqs (F:=fun s:(List Power)×Int×(List Power)×Int×Int=>(zgp s.1 s.2.1 s.2.2.1 s.2.2.2.1 s.2.2.2.2).run)
   (fun s=>s.1=l∧s.2.1=m∧s.2.2.1=l∧s.2.2.2.1=l.length∧0≤s.2.2.2.2∧s.2.2.2.2≤l.length ∧ -1≤zf3 l s.2.2.2.2∧(0 < s.2.2.2.2→0≤zf3 l s.2.2.2.2)) (fun s=>l.length - s.2.2.2.2.toNat)
   (fun s r=>match r with | .inl b=>b=false∧zw m (zf3 l s.2.2.2.2) (l.drop s.2.2.2.2.toNat)=false | .inr _=>zw m (zf3 l s.2.2.2.2) (l.drop s.2.2.2.2.toNat)=true) ?_ (l,m,l,(l.length:Int),0) ⟨rfl,rfl,rfl,rfl,by simp,by simp,by simp[zf3],by simp⟩
  ·exact this
  ·rintro ⟨x0,x1,x2,x3,x4⟩ ⟨h1,h2,h3,h4,h5,h6,h7,h8⟩
   simp only at h1 h2 h3 h4 h5 h6 h7 h8
   subst h1;subst h2;subst h3;subst h4
   simp only[zgp]
   by_cases hc:x4 < x2.length
   ·have hs:=za0 (l:=x2) (k:=x4.toNat) (by omega) default
    rw[Tr.rt (by simpa using hc),Tr.rg ⟨h5,hc⟩,Tr.rg (by
     intro h _
     simp only[decide_eq_true_eq] at h
     rw[zj (x:=x4 - 1) (by omega) (by omega)]
     exact ⟨⟨by omega,by simp only[Sl.len];omega⟩,trivial⟩)]
    rw[hs]
    have hp:(decide (x4 > 0)&&decide ((x2.getD (i64.wrap (x4 - 1)).toNat default).V≥(x2.getD x4.toNat default).V))=(decide (x4 > 0)&&decide (zf3 x2 x4≥(x2.getD x4.toNat default).V)):=by
     by_cases h0:x4 > 0
     ·rw[zj (x:=x4 - 1) (by omega) (by omega)]
      unfold zf3
      rw[if_neg (by omega)]
     ·simp[h0]
    rw[hp]
    generalize hq:x2.getD x4.toNat default=q at *
    by_cases hd:zf3 x2 x4 < q.V∧q.V≤5∧x1≤q.N∧q.N≤1125899906842624
    ·obtain ⟨d1,d2,d3,d4⟩:=hd
     have hw:i64.wrap (x4+1)=x4+1:=zj (by omega) (by omega)
     have hpv:zf3 x2 (x4+1)=q.V:=by unfold zf3;rw[if_neg (by omega),show x4+1 - 1=x4 by omega,hq]
     refine .inl ⟨_,by rw[Tr.rf (by simp;omega),Tr.rl,hw],⟨rfl,rfl,rfl,rfl,?_,?_,?_,?_⟩,?_,?_⟩
     ·simp only[];omega
     ·simp only[];omega
     ·simp only[];rw[hpv];omega
     ·simp only[];rw[hpv];intro _;omega
     ·simp only[];omega
     ·simp only[]
      rw[hpv,show (x4+1).toNat=x4.toNat+1 by omega]
      intro r hr
      rw[zw,decide_eq_true d1,decide_eq_true d2,decide_eq_true d3,decide_eq_true d4]
      simpa using hr
    ·refine .inr ⟨_,by rw[Tr.rt (by
      by_cases h0:x4 > 0
      ·have:=h8 h0
       simp[h0];omega
      ·have:zf3 x2 x4 = -1:=by unfold zf3;rw[if_pos (by omega)]
       simp[h0];omega),Tr.rl],?_⟩
     refine ⟨rfl,?_⟩
     rw[zw]
     simp only[Bool.and_eq_false_iff,yy8]
     omega
   ·refine .inr ⟨_,by rw[Tr.rf (by simpa using hc),Tr.rl],?_⟩
    try simp only[]
    rw[List.drop_eq_nil_of_le (by omega)];rfl
 obtain ⟨r,h1,h2⟩:=key
 rw[zm3,zo4]
 cases r with
 | inl b=>rw[Tr.ri h1,Tr.rl,h2.1,h2.2]
 | inr x=>rw[Tr.rj h1,Tr.rl,h2]
theorem zaoz {p:Packet} {l:List Int} (hp:p.Done=l) (hl:l.length≤9223372036854775807) :
  ∃ r,zrr l l.length 0 p=some r∧(match r with | .inl b=>b=2∧zal (-1) l=false | .inr _=>zal (-1) l=true):=by
 have:=zqs (F:=fun s:(List Int)×Int×Int×Packet=>(ziz s.1 s.2.1 s.2.2.1 s.2.2.2).run)
  (fun s=>s.1=l∧s.2.1=l.length∧0≤s.2.2.1∧s.2.2.1≤l.length∧s.2.2.2=p∧(0 < s.2.2.1→0≤zmn l s.2.2.1)) (fun s=>l.length - s.2.2.1.toNat)
  (fun s r=>match r with | .inl b=>b=2∧zal (zmn l s.2.2.1) (l.drop s.2.2.1.toNat)=false | .inr _=>zal (zmn l s.2.2.1) (l.drop s.2.2.1.toNat)=true) ?_ (l,(l.length:Int),0,p) ⟨rfl,rfl,by simp,by simp,rfl,by simp⟩
 ·exact this
 ·rintro ⟨x0,x1,x2,x3⟩ ⟨h1,h2,h3,h4,h5,h6⟩
  simp only at h1 h2 h3 h4 h5 h6
  rw[h1,h2,h5] at *
  simp only[ziz,hp]
  by_cases hc:x2 < l.length
  ·have hs:=za0 (l:=l) (k:=x2.toNat) (by omega) 0
   rw[Tr.rt (by simpa using hc),Tr.rg ⟨h3,hc⟩,Tr.rg (by
    intro h _
    simp only[decide_eq_true_eq] at h
    rw[zj (x:=x2 - 1) (by omega) (by omega)]
    exact ⟨⟨by omega,by simp only[Sl.len];omega⟩,trivial⟩)]
   rw[hs]
   have hp:(decide (x2 > 0)&&decide (l.getD (i64.wrap (x2 - 1)).toNat 0≥l.getD x2.toNat 0))=(decide (x2 > 0)&&decide (zmn l x2≥l.getD x2.toNat 0)):=by
    by_cases h0:x2 > 0
    ·rw[zj (x:=x2 - 1) (by omega) (by omega)]
     unfold zmn
     rw[if_neg (by omega)]
    ·simp[h0]
   rw[hp]
   generalize hq:l.getD x2.toNat 0=q at *
   by_cases hd:zmn l x2 < q∧q≤5
   ·obtain ⟨d1,d2⟩:=hd
    have hw:i64.wrap (x2+1)=x2+1:=zj (by omega) (by omega)
    have hpv:zmn l (x2+1)=q:=by unfold zmn;rw[if_neg (by omega),show x2+1 - 1=x2 by omega,hq]
    have hq0:0≤q:=by
     by_cases h0:x2 > 0
     ·have:=h6 h0;omega
     ·have:zmn l x2 = -1:=by unfold zmn;rw[if_pos (by omega)]
      omega
    refine .inl ⟨_,by rw[Tr.rf (by simp;omega),Tr.rl,hw],⟨rfl,rfl,?_,?_,rfl,?_⟩,?_,?_⟩
    ·simp only[];omega
    ·simp only[];omega
    ·simp only[];rw[hpv];intro _;omega
    ·simp only[];omega
    ·simp only[]
     rw[hpv,show (x2+1).toNat=x2.toNat+1 by omega]
     intro r hr
     rw[zal,decide_eq_true d1,decide_eq_true d2]
     simpa using hr
   ·refine .inr ⟨_,by rw[Tr.rt (by
     by_cases h0:x2 > 0
     ·have:=h6 h0
      simp[h0];omega
     ·have:zmn l x2 = -1:=by unfold zmn;rw[if_pos (by omega)]
      simp[h0];omega),Tr.rl],?_⟩
    refine ⟨rfl,?_⟩
    rw[zal]
    simp only[Bool.and_eq_false_iff,yy8]
    omega
  ·refine .inr ⟨_,by rw[Tr.rf (by simpa using hc),Tr.rl],?_⟩
   try simp only[]
   rw[List.drop_eq_nil_of_le (by omega)];rfl
theorem zxe {p:Packet} (h1:p.Set.length*16≤140737488351232) (h2:p.Done.length*8≤140737488351232):zfb p=some (zca p):=by
 rw[zfb,zsm]
 unfold zca
 by_cases c1:p.Kind < 1∨4 < p.Kind
 ·rw[Tr.rt (by simpa using c1),Tr.rl,if_pos c1]
 ·rw[Tr.rf (by simpa using c1),if_neg c1]
  by_cases c2:p.Id < 1∨1099511627776 < p.Id
  ·rw[Tr.rt (by simpa using c2),Tr.rl,if_pos (.inl c2)]
  ·rw[Tr.rf (by simpa using c2)]
   by_cases c3:3≤p.Kind∧(p.V < 0∨5 < p.V∨p.N < 1∨1125899906842624 < p.N)
   ·rw[Tr.rt (by simp;omega),Tr.rl,if_pos (.inr c3)]
   ·rw[Tr.rf (by simp;omega),if_neg (by simp only[not_or];exact ⟨by simpa using c2,c3⟩)]
    by_cases c4:(p.Kind≤2∧(p.V≠0∨p.N≠0))∨(p.Kind≠1∧(0 < p.Set.length∨0 < p.Done.length))
    ·rw[Tr.rt (by rw[zj (x:=(p.Set.length:Int)+p.Done.length) (by omega) (by omega)];simp;omega),Tr.rl,if_pos c4]
    ·rw[Tr.rf (by rw[zj (x:=(p.Set.length:Int)+p.Done.length) (by omega) (by omega)];simp;omega),if_neg c4,Tr.rb (zagl (by omega))]
     by_cases c5:zw 0 (-1) p.Set=false
     ·rw[Tr.rt (by rw[c5];rfl),Tr.rl,if_pos c5]
     ·rw[Tr.rf (by simpa using c5),if_neg c5]
      obtain ⟨r,e1,e2⟩:=zaoz (p:=p) (l:=p.Done) rfl (by omega)
      cases r with
      | inl b=>rw[Tr.ri e1,Tr.rl,e2.1,if_pos e2.2]
      | inr b=>rw[Tr.rj e1,Tr.rl,if_neg (by rw[e2];simp)]
def byt (x:Int) (i:Nat):UInt8:=UInt8.ofNat (x.toNat / 256 ^ i)
def be (x:Int):Nat→List UInt8
 | 0=>[]
 | k+1=>byt x k::be x k
theorem zcz {x:Int}:∀ k,(be x k).length=k
 | 0=>rfl
 | k+1=>by rw[be,List.length_cons,zcz k]
theorem zaah (y:Int):IntKind.u8.wrap y=y % 256:=by
 unfold IntKind.wrap
 simp[IntKind.bits,IntKind.signed]
theorem zagm {y:Int} (h0:0≤y) (h1:y≤9223372036854775807):u64.wrap y=y:=by
 unfold IntKind.wrap
 simp[IntKind.bits,IntKind.signed]
 omega
theorem zacb {x:Int} (hx:0≤x) {i:Nat} (hi:i≤7) :
  (IntKind.u8.wrap (Int.fdiv x (2 ^ (min (u64.wrap (i64.wrap (8*(i:Int)))).toNat 64))))=((x.toNat / 256 ^ i % 256:Nat):Int):=by
 rw[zj (by omega) (by omega),zagm (by omega) (by omega),zaah]
 rw[show min (8*(i:Int)).toNat 64=8*i by omega,Int.fdiv_eq_ediv_of_nonneg _ (Int.le_of_lt (Int.pow_pos (by omega)))]
 obtain ⟨n,rfl⟩:=Int.eq_ofNat_of_zero_le hx
 have h2:(2:Int) ^ (8*i)=((256 ^ i:Nat):Int):=by rw[Int.pow_mul,Int.natCast_pow];rfl
 rw[h2,yy4]
 rfl
theorem zatx {x:Int} (hx:0≤x) {i:Nat} (hi:i≤7) :
  UInt8.ofNat (IntKind.u8.wrap (Int.fdiv x (2 ^ (min (u64.wrap (i64.wrap (8*(i:Int)))).toNat 64)))).toNat=byt x i:=by
 rw[zacb hx hi,yy4]
 unfold byt
 apply UInt8.toNat_inj.1
 rw[UInt8.toNat_ofNat',UInt8.toNat_ofNat']
 omega
theorem zyz {x:Int} {k:Nat} {b:List UInt8} (hx:0≤x) (hk:k≤7) (hk0:0 < k) (hb:b.length+k≤140737488355328):zl x k b=some (b++be x k):=by
 have key:zm4 x (k - 1:Int) b=some (b++be x k):=by
  have:=z5j (F:=fun s:Int×Int×(List UInt8)=>(zkm s.1 s.2.1 s.2.2).run)
   (fun s=>s.1=x ∧ -1≤s.2.1∧s.2.1≤6∧s.2.2.length+(s.2.1+1).toNat≤140737488355328) (fun s=>(s.2.1+1).toNat) (fun s=>s.2.2++be x (s.2.1+1).toNat) ?_ (x,(k - 1:Int),b) ⟨rfl,by simp only[];omega,by simp only[];omega,by simp only[];omega⟩
  ·rw[zm4,this];simp only[];rw[show ((k:Int) - 1+1).toNat=k by omega]
  ·rintro ⟨y,i,c⟩ ⟨h1,h2,h3,h4⟩
   simp only at h1 h2 h3 h4
   subst h1
   simp only[zkm]
   by_cases hc:i≥0
   ·obtain ⟨n,rfl⟩:=Int.eq_ofNat_of_zero_le hc
    have hw:i64.wrap ((n:Int) - 1)=(n:Int) - 1:=zj (by omega) (by omega)
    refine .inl ⟨(y,(n:Int) - 1,c++[byt y n]),?_,⟨rfl,by simp only[];omega,by simp only[];omega,by simp only[yy6,yy5];omega⟩,by simp only[];omega,?_⟩
    ·rw[Tr.rt (by simp),Tr.rg (by rw[zj (by omega) (by omega),zagm (by omega) (by omega)];omega),Tr.rg (by rw[zacb hx (by omega)];omega),zatx hx (by omega),hw,Tr.rg (by simp only[Sl.len,yy5];omega),Tr.rl]
    ·simp only[]
     rw[show ((n:Int) - 1+1).toNat=n by omega,show ((n:Int)+1).toNat=n+1 by omega,be]
     simp
   ·refine .inr ?_
    rw[Tr.rf (by simpa using hc),Tr.rl,show (i+1).toNat=0 by omega,be,List.append_nil]
 rw[zl,zvl,zj (by omega) (by omega),Tr.rb key,Tr.rl]
theorem zmt {m:Int} (hm:0≤m):∀ {l:List Power} {p:Int},zw m p l=true → -1≤p→∀ q,q∈l→0≤q.V∧q.V≤5∧m≤q.N∧q.N≤1125899906842624
 | [],_,_,_,q,h=>by cases h
 | a::l,p,h,hp,q,hq=>by
  rw[zw] at h
  simp only[yy7,decide_eq_true_eq] at h
  obtain ⟨⟨⟨⟨h1,h2⟩,h3⟩,h4⟩,h5⟩:=h
  rcases List.mem_cons.1 hq with rfl | hq
  ·exact ⟨by omega,h2,h3,h4⟩
  ·exact zmt hm h5 (by omega) q hq
theorem zkb {m:Int}:∀ {l:List Power} {p:Int},zw m p l=true→p≤5→(l.length:Int)≤5 - p
 | [],p,_,hp=>by simp;omega
 | a::l,p,h,hp=>by
  rw[zw] at h
  simp only[yy7,decide_eq_true_eq] at h
  obtain ⟨⟨⟨⟨h1,h2⟩,h3⟩,h4⟩,h5⟩:=h
  have:=zkb h5 h2
  rw[List.length_cons];omega
theorem ztn:∀ {l:List Int} {p:Int},zal p l=true → -1≤p→∀ q,q∈l→0≤q∧q≤5
 | [],_,_,_,q,h=>by cases h
 | a::l,p,h,hp,q,hq=>by
  rw[zal] at h
  simp only[yy7,decide_eq_true_eq] at h
  obtain ⟨⟨h1,h2⟩,h5⟩:=h
  rcases List.mem_cons.1 hq with rfl | hq
  ·exact ⟨by omega,h2⟩
  ·exact ztn h5 (by omega) q hq
theorem zto:∀ {l:List Int} {p:Int},zal p l=true→p≤5→(l.length:Int)≤5 - p
 | [],p,_,hp=>by simp;omega
 | a::l,p,h,hp=>by
  rw[zal] at h
  simp only[yy7,decide_eq_true_eq] at h
  obtain ⟨⟨h1,h2⟩,h5⟩:=h
  have:=zto h5 h2
  rw[List.length_cons];omega
def z5y (l:List Power):List UInt8:=l.flatMap fun q=>be q.V 1++be q.N 7
def z71 (l:List Int):List UInt8:=l.flatMap fun q=>be q 1
def zl3 (p:Packet):List UInt8:=be p.Kind 1++be p.Id 6++be p.V 1++be p.N 7++be p.Set.length 1++z5y p.Set++be p.Done.length 1++z71 p.Done
def txt (l:List UInt8):ByteArray:=⟨l.toArray⟩
theorem zxf (l:List UInt8):(txt l).size=l.length:=rfl
theorem ztp (l:List UInt8):(txt l).data.toList=l:=rfl
theorem z1h (q:Power) (l:List Power):z5y (q::l)=be q.V 1++be q.N 7++z5y l:=by simp[z5y]
theorem z1i (q:Int) (l:List Int):z71 (q::l)=be q 1++z71 l:=by simp[z71]
theorem zrf:∀ l:List Power,(z5y l).length=8*l.length
 | []=>rfl
 | q::l=>by rw[z1h,yy6,yy6,zcz,zcz,zrf l,List.length_cons];omega
theorem z1j:∀ l:List Int,(z71 l).length=l.length
 | []=>rfl
 | q::l=>by rw[z1i,yy6,zcz,z1j l,List.length_cons];omega
theorem zao0 {l:List Power} {p:Packet} {b:List UInt8} (hq:∀ q,q∈l→0≤q.V∧q.V≤5∧0≤q.N∧q.N≤1125899906842624) (hl:l.length≤6) (hb:b.length≤1000) :
  zi0 l l.length 0 p b=some (p,b++z5y l):=by
 have:=z5j (F:=fun s:(List Power)×Int×Int×Packet×(List UInt8)=>(zgq s.1 s.2.1 s.2.2.1 s.2.2.2.1 s.2.2.2.2).run)
  (fun s=>s.1=l∧s.2.1=l.length∧0≤s.2.2.1∧s.2.2.1≤l.length∧s.2.2.2.1=p∧(s.2.2.2.2.length:Int)≤1000+8*s.2.2.1) (fun s=>l.length - s.2.2.1.toNat) (fun s=>(p,s.2.2.2.2++z5y (l.drop s.2.2.1.toNat))) ?_ (l,(l.length:Int),0,p,b) ⟨rfl,rfl,by simp,by simp,rfl,by simp only[];omega⟩
 ·rw[zi0,this];rfl
 ·rintro ⟨x0,x1,i,p',c⟩ ⟨h1,h2,h3,h4,h5,h6⟩
  simp only at h1 h2 h3 h4 h5 h6
  rw[h1,h2,h5]
  simp only[zgq]
  by_cases hc:i < l.length
  ·have hs:=za0 (l:=l) (k:=i.toNat) (by omega) default
   obtain ⟨q1,q2,q3,q4⟩:=hq _ (zdg (l:=l) (k:=i.toNat) (by omega) default)
   rw[hs]
   generalize l.getD i.toNat default=q at *
   have hw:i64.wrap (i+1)=i+1:=zj (by omega) (by omega)
   have e1:=zyz (x:=q.V) (k:=1) (b:=c) q1 (by omega) (by omega) (by omega)
   have e2:=zyz (x:=q.N) (k:=7) (b:=c++be q.V 1) q3 (by omega) (by omega) (by rw[yy6,zcz];omega)
   refine .inl ⟨(l,(l.length:Int),i+1,p,c++be q.V 1++be q.N 7),?_,⟨rfl,rfl,by simp only[];omega,by simp only[];omega,rfl,by simp only[yy6,zcz];omega⟩,by simp only[];omega,?_⟩
   ·rw[Tr.rt (by simpa using hc),Tr.rg ⟨h3,hc⟩]
    rw[show zl q.V 1 c=some (c++be q.V 1) from e1,Tr.rg Option.isSome_some]
    simp only[yy2]
    rw[show zl q.N 7 (c++be q.V 1)=some (c++be q.V 1++be q.N 7) from e2,Tr.rg Option.isSome_some,Tr.rl,hw]
    rfl
   ·simp only[]
    rw[show (i+1).toNat=i.toNat+1 by omega,z1h]
    simp
  ·refine .inr ?_
   rw[Tr.rf (by simpa using hc),Tr.rl]
   try simp only[]
   rw[List.drop_eq_nil_of_le (by omega)]
   simp[z5y]
theorem zao1 {l:List Int} {b:List UInt8} (hq:∀ q,q∈l→0≤q∧q≤5) (hl:l.length≤6) (hb:b.length≤2000) :
  zi1 l l.length 0 b=some (b++z71 l):=by
 have:=z5j (F:=fun s:(List Int)×Int×Int×(List UInt8)=>(zgr s.1 s.2.1 s.2.2.1 s.2.2.2).run)
  (fun s=>s.1=l∧s.2.1=l.length∧0≤s.2.2.1∧s.2.2.1≤l.length∧(s.2.2.2.length:Int)≤2000+s.2.2.1) (fun s=>l.length - s.2.2.1.toNat) (fun s=>s.2.2.2++z71 (l.drop s.2.2.1.toNat)) ?_ (l,(l.length:Int),0,b) ⟨rfl,rfl,by simp,by simp,by simp only[];omega⟩
 ·rw[zi1,this];rfl
 ·rintro ⟨x0,x1,i,c⟩ ⟨h1,h2,h3,h4,h6⟩
  simp only at h1 h2 h3 h4 h6
  rw[h1,h2]
  simp only[zgr]
  by_cases hc:i < l.length
  ·have hs:=za0 (l:=l) (k:=i.toNat) (by omega) 0
   obtain ⟨q1,q2⟩:=hq _ (zdg (l:=l) (k:=i.toNat) (by omega) 0)
   rw[hs]
   generalize l.getD i.toNat 0=q at *
   have hw:i64.wrap (i+1)=i+1:=zj (by omega) (by omega)
   have e1:=zyz (x:=q) (k:=1) (b:=c) q1 (by omega) (by omega) (by omega)
   refine .inl ⟨(l,(l.length:Int),i+1,c++be q 1),?_,⟨rfl,rfl,by simp only[];omega,by simp only[];omega,by simp only[yy6,zcz];omega⟩,by simp only[];omega,?_⟩
   ·rw[Tr.rt (by simpa using hc),Tr.rg ⟨h3,hc⟩,Tr.rb (show zl q 1 c=some (c++be q 1) from e1),Tr.rl,hw]
   ·simp only[]
    rw[show (i+1).toNat=i.toNat+1 by omega,z1i]
    simp
  ·refine .inr ?_
   rw[Tr.rf (by simpa using hc),Tr.rl]
   try simp only[]
   rw[List.drop_eq_nil_of_le (by omega)]
   simp[z71]
theorem zmu {p:Packet} (h:zca p=0):1≤p.Kind∧p.Kind≤4∧1≤p.Id∧p.Id≤1099511627776∧0≤p.V∧p.V≤5∧0≤p.N∧p.N≤1125899906842624∧zw 0 (-1) p.Set=true∧zal (-1) p.Done=true ∧
  (p.Kind≤2→p.V=0∧p.N=0)∧(p.Kind≠1→p.Set=[]∧p.Done=[]):=by
 unfold zca at h
 by_cases c1:p.Kind < 1∨4 < p.Kind
 ·rw[if_pos c1] at h;cases h
 rw[if_neg c1] at h
 by_cases c2:(p.Id < 1∨1099511627776 < p.Id)∨(3≤p.Kind∧(p.V < 0∨5 < p.V∨p.N < 1∨1125899906842624 < p.N))
 ·rw[if_pos c2] at h;cases h
 rw[if_neg c2] at h
 by_cases c4:(p.Kind≤2∧(p.V≠0∨p.N≠0))∨(p.Kind≠1∧(0 < p.Set.length∨0 < p.Done.length))
 ·rw[if_pos c4] at h;cases h
 rw[if_neg c4] at h
 by_cases c5:zw 0 (-1) p.Set=false
 ·rw[if_pos c5] at h;cases h
 rw[if_neg c5] at h
 by_cases c6:zal (-1) p.Done=false
 ·rw[if_pos c6] at h;cases h
 refine ⟨by omega,by omega,by omega,by omega,by omega,by omega,by omega,by omega,by simpa using c5,by simpa using c6,fun _=>by omega,fun hk=>?_⟩
 exact ⟨List.length_eq_zero_iff.1 (by omega),List.length_eq_zero_iff.1 (by omega)⟩
def zgi (p:Packet):ByteArray×Int:=if zca p=0 then (txt (zl3 p),0) else (txt [],zca p)
theorem z1k {p:Packet} (h1:p.Set.length*16≤140737488351232) (h2:p.Done.length*8≤140737488351232):za5 p=some (zgi p):=by
 rw[za5,zo5,Tr.rb (zxe h1 h2)]
 unfold zgi
 by_cases hg:zca p=0
 ·obtain ⟨g1,g2,g3,g4,g5,g6,g7,g8,g9,g10,_,_⟩:=zmu hg
  have l1:=zkb g9 (by omega)
  have l2:=zto g10 (by omega)
  have hk:UInt8.ofNat (IntKind.u8.wrap p.Kind).toNat=byt p.Kind 0:=by
   rw[zaah]
   unfold byt
   apply UInt8.toNat_inj.1
   rw[UInt8.toNat_ofNat',UInt8.toNat_ofNat',Nat.pow_zero,Nat.div_one]
   omega
  have e1:zl p.Id 6 [byt p.Kind 0]=some ([byt p.Kind 0]++be p.Id 6):=zyz (k:=6) (by omega) (by omega) (by omega) (by rw[yy5];omega)
  have e2:zl p.V 1 ([byt p.Kind 0]++be p.Id 6)=some ([byt p.Kind 0]++be p.Id 6++be p.V 1):=zyz (k:=1) (by omega) (by omega) (by omega) (by simp only[yy6,zcz,yy5];omega)
  have e3:zl p.N 7 ([byt p.Kind 0]++be p.Id 6++be p.V 1)=some ([byt p.Kind 0]++be p.Id 6++be p.V 1++be p.N 7):=zyz (k:=7) (by omega) (by omega) (by omega) (by simp only[yy6,zcz,yy5];omega)
  have e4:zl p.Set.length 1 ([byt p.Kind 0]++be p.Id 6++be p.V 1++be p.N 7)=some ([byt p.Kind 0]++be p.Id 6++be p.V 1++be p.N 7++be p.Set.length 1):=zyz (k:=1) (by omega) (by omega) (by omega) (by simp only[yy6,zcz,yy5];omega)
  have e5:=zao0 (p:=p) (b:=[byt p.Kind 0]++be p.Id 6++be p.V 1++be p.N 7++be p.Set.length 1) (zmt (by omega) g9 (by omega)) (by omega) (by simp only[yy6,zcz,yy5];omega)
  rw[Tr.rf (by simp[hg]),if_pos hg,Tr.rg (by rw[zaah];omega),hk,e1,Tr.rg Option.isSome_some]
  simp only[yy2]
  rw[e2,Tr.rg Option.isSome_some]
  simp only[yy2]
  rw[e3,Tr.rg Option.isSome_some]
  simp only[yy2]
  rw[e4,Tr.rg Option.isSome_some]
  simp only[yy2]
  rw[Tr.rb e5]
  have hs:=zrf p.Set
  have e6:zl p.Done.length 1 ([byt p.Kind 0]++be p.Id 6++be p.V 1++be p.N 7++be p.Set.length 1++z5y p.Set)=some ([byt p.Kind 0]++be p.Id 6++be p.V 1++be p.N 7++be p.Set.length 1++z5y p.Set++be p.Done.length 1):=zyz (k:=1) (by omega) (by omega) (by omega) (by simp only[yy6,zcz,yy5];omega)
  have e7:=zao1 (b:=[byt p.Kind 0]++be p.Id 6++be p.V 1++be p.N 7++be p.Set.length 1++z5y p.Set++be p.Done.length 1) (ztn g10 (by omega)) (by omega) (by simp only[yy6,zcz,yy5];omega)
  rw[Tr.rb (show zl (((p,[byt p.Kind 0]++be p.Id 6++be p.V 1++be p.N 7++be p.Set.length 1++z5y p.Set):Packet×List UInt8).1.Done.length:Nat) 1 _=_ from e6),Tr.rb e7,Tr.rl]
  rfl
 ·rw[Tr.rt (by simpa using hg),Tr.rl,if_neg hg]
  rfl
theorem zacc {σ ρ:Type} {F:σ→Option (σ⊕ρ)} {s s':σ} (h:F s=some (.inl s')):zdv F s=zdv F s':=by rw[zqn,h]
theorem zzz {σ ρ:Type} {F:σ→Option (σ⊕ρ)} {s:σ} {r:ρ} (h:F s=some (.inr r)):zdv F s=some r:=by rw[zqn,h]
def numF (v:Nat) (l:List UInt8):Nat:=l.foldl (fun v c=>256*v+c.toNat) v
def num (l:List UInt8):Nat:=numF 0 l
theorem z72 (v:Nat) (c:UInt8) (l:List UInt8):numF v (c::l)=numF (256*v+c.toNat) l:=rfl
theorem zagn:∀ {l:List UInt8} {v i:Nat},v < 256 ^ i→numF v l < 256 ^ (i+l.length)
 | [],v,i,h=>h
 | c::l,v,i,h=>by
  have:=zagn (l:=l) (v:=256*v+c.toNat) (i:=i+1) (by have:=c.toNat_lt;rw[Nat.pow_succ'];omega)
  rw[z72,List.length_cons,show i+(l.length+1)=i+1+l.length by omega]
  exact this
theorem zaty {l:List UInt8} {k:Nat} (h:l.length≤k):num l < 256 ^ k:=by
 have:=zagn (l:=l) (v:=0) (i:=0) (by simp)
 rw[Nat.zero_add] at this
 exact Nat.lt_of_lt_of_le this (Nat.pow_le_pow_right (by omega) h)
theorem zago (x:Int) (i:Nat):(byt x i).toNat=x.toNat / 256 ^ i % 256:=by
 unfold byt;rw[UInt8.toNat_ofNat']
theorem zagp (x:Int):∀ (k v:Nat),numF v (be x k)=v*256 ^ k+x.toNat % 256 ^ k
 | 0,v=>by simp[be,numF,Nat.mod_one]
 | k+1,v=>by
  rw[be,z72,zagp x k,zago,Nat.mod_pow_succ,Nat.pow_succ',Nat.add_mul,Nat.mul_comm (x.toNat / 256 ^ k % 256),Nat.mul_comm 256 v,Nat.mul_assoc]
  omega
theorem zxg {x:Int} {k:Nat} (h0:0≤x) (h:x.toNat < 256 ^ k):((num (be x k):Nat):Int)=x:=by
 obtain ⟨n,rfl⟩:=Int.eq_ofNat_of_zero_le h0
 unfold num
 rw[zagp,Nat.zero_mul,Nat.zero_add,yy4,Nat.mod_eq_of_lt (by simpa using h)]
theorem zao3 {v c:Nat} (hv:v < 281474976710656) (hc:c < 256) :
  i64.wrap (((BitVec.ofInt 64 (i64.wrap ((v:Int)*2 ^ 8)) ||| BitVec.ofInt 64 (i64.wrap ((c:Nat):Int))).toNat:Nat):Int)=((256*v+c:Nat):Int):=by
 have h1:i64.wrap ((v:Int)*2 ^ 8)=((v*256:Nat):Int):=by rw[zj (by omega) (by omega)];omega
 have h2:i64.wrap ((c:Nat):Int)=((c:Nat):Int):=zj (by omega) (by omega)
 rw[h1,h2,BitVec.ofInt_natCast,BitVec.ofInt_natCast,BitVec.toNat_or,BitVec.toNat_ofNat,BitVec.toNat_ofNat,Nat.mod_eq_of_lt (by omega),Nat.mod_eq_of_lt (by omega)]
 have h3:=Nat.shiftLeft_add_eq_or_of_lt (i:=8) (b:=c) (by omega) v
 rw[Nat.shiftLeft_eq] at h3
 rw[← h3,zj (by omega) (by omega)]
 omega
theorem z1l (s:List UInt8) (a b:Nat):(txt s).extract a b=txt ((s.drop a).take (b - a)):=by
 apply ByteArray.ext
 rw[ByteArray.data_extract]
 apply Array.toList_inj.1
 rw[Array.toList_extract]
 rfl
theorem zao4 {n:Int} {l:List UInt8} {t:zef} (hl:l.length≤7) :
  zel n 0 l l.length 0 t=some (n,((num l:Nat):Int),t):=by
 have:=zms (F:=fun s:Int×Int×(List UInt8)×Int×Int×zef=>(zbk s.1 s.2.1 s.2.2.1 s.2.2.2.1 s.2.2.2.2.1 s.2.2.2.2.2).run) l.length
  (fun i (v:Nat)=>(n,(v:Int),l,(l.length:Int),(i:Int),t)) (fun i v=>v < 256 ^ i) (fun i v=>(n,((numF v (l.drop i):Nat):Int),t)) ?_ ?_ 0 0 (by omega) (by simp)
 ·rw[zel];exact this
 ·intro v hv
  simp only[zbk]
  rw[Tr.rf (by simp),Tr.rl,List.drop_length]
  rfl
 ·intro i v hi hv
  have hs:=za0 (l:=l) (k:=i) hi 0
  simp only[zbk,yy4]
  have hb:(256:Nat) ^ i≤256 ^ 6:=Nat.pow_le_pow_right (by omega) (by omega)
  have hc:=(l.getD i 0).toNat_lt
  refine .inl ⟨256*v+(l.getD i 0).toNat,?_,by rw[Nat.pow_succ'];omega,?_⟩
  ·rw[Tr.rt (by simpa using hi),Tr.rg ⟨by omega,by rw[z7x];omega⟩,Tr.rg (by omega),Tr.rl,zv (by omega),zao3 (by omega) (by omega)]
  ·rw[hs];rfl
theorem z73 {n:Nat} {s:List UInt8} {b:Bool} (hn:n≤7) (hs:s.length≤140737488355328) :
  zd n ⟨txt s,b⟩=some (if s.length < n then ((0:Int),(⟨txt [],true⟩:zef)) else (((num (s.take n):Nat):Int),(⟨txt (s.drop n),b⟩:zef))):=by
 rw[zd,zg1]
 simp only[zxf,yy4]
 by_cases h:s.length < n
 ·rw[if_pos h,Tr.rt (by simpa using h),Tr.rl];rfl
 ·rw[if_neg h,Tr.rf (by simp;omega),Tr.rg (by omega),z1l,Nat.sub_zero,List.drop_zero,Tr.rg (by rw[zxf,List.length_take];omega),ztp,
   Tr.rb (zao4 (by rw[List.length_take];omega))]
  simp only[zxf,yy4]
  rw[Tr.rg (by omega),Tr.rl,z1l,List.take_of_length_le (l:=s.drop n) (Nat.le_of_eq List.length_drop)]
theorem zck {n:Nat} {m:Int} (hm:m=n) {s:List UInt8} {b:Bool} (hn:n≤7) (hs:s.length≤140737488355328) (h:n≤s.length) :
  zd m ⟨txt s,b⟩=some (((num (s.take n):Nat):Int),(⟨txt (s.drop n),b⟩:zef)):=by
 rw[hm,z73 hn hs,if_neg (by omega)]
theorem zc3 {n:Nat} {m:Int} (hm:m=n) {s:List UInt8} {b:Bool} (hn:n≤7) (hs:s.length≤140737488355328) (h:s.length < n) :
  zd m ⟨txt s,b⟩=some ((0:Int),(⟨txt [],true⟩:zef)):=by
 rw[hm,z73 hn hs,if_pos h]
def rdS:Nat→List UInt8→List Power
 | 0,_=>[]
 | n+1,s=>⟨(num (s.take 1):Nat),(num ((s.drop 1).take 7):Nat)⟩::rdS n (s.drop 8)
def rdD:Nat→List UInt8→List Int
 | 0,_=>[]
 | n+1,s=>((num (s.take 1):Nat):Int)::rdD n (s.drop 1)
theorem zvv (x:Int) (p0 p:Packet):zap x p0 ⟨txt [],true⟩ p=some (p0,⟨txt [],true⟩,p):=by
 rw[zap]
 refine zzz ?_
 simp only[zem]
 rw[Tr.rf (by simp),Tr.rl]
theorem zrg (x:Int) (p0 p:Packet):zaq x p0 ⟨txt [],true⟩ p=some (p0,⟨txt [],true⟩,p):=by
 rw[zaq]
 refine zzz ?_
 simp only[zen]
 rw[Tr.rf (by simp),Tr.rl]
theorem zagq {p0:Packet}:∀ (k:Nat) {s:List UInt8} {p:Packet},s.length≤140737488355328→p.Set.length+k≤1000 →
  ∃ r:zef×Packet,zap k p0 ⟨txt s,false⟩ p=some (p0,r.1,r.2) ∧
   (if 8*k≤s.length then r=(⟨txt (s.drop (8*k)),false⟩,{ p with Set:=p.Set++rdS k s }) else r.1=⟨txt [],true⟩)
 | 0,s,p,hs,hp=>by
  refine ⟨(⟨txt s,false⟩,p),?_,?_⟩
  ·rw[zap]
   refine zzz ?_
   simp only[zem]
   rw[Tr.rf (by simp),Tr.rl]
  ·rw[if_pos (by omega)];try simp[rdS]
 | k+1,s,p,hs,hp=>by
  have hw:i64.wrap (((k+1:Nat):Int) - 1)=(k:Int):=by rw[zj (by omega) (by omega)];omega
  have key:∀ (v1:Int) (t1:zef) (v2:Int) (t2:zef),zd 1 ⟨txt s,false⟩=some (v1,t1)→zd 7 t1=some (v2,t2) →
    zap (k+1:Nat) p0 ⟨txt s,false⟩ p=zap k p0 t2 { p with Set:=p.Set++[⟨v1,v2⟩] }:=by
   intro v1 t1 v2 t2 e1 e2
   rw[zap,zap]
   refine zacc ?_
   simp only[zem]
   rw[Tr.rt (by first | (simp;omega) | simp),Tr.rb e1]
   simp only[e2,Option.isSome_some,yy2,hw]
   rw[Tr.rg (by trivial),Tr.rg (by simp only[zbd,yy5];omega),Tr.rl]
  by_cases h1:s.length < 1
  ·rw[key 0 ⟨txt [],true⟩ 0 ⟨txt [],true⟩ (zc3 (m:=1) (n:=1) rfl (by omega) hs h1) (zc3 (m:=7) (n:=7) rfl (by omega) (by simp) (by simp))]
   exact ⟨(⟨txt [],true⟩,_),zvv _ _ _,by rw[if_neg (by omega)]⟩
  ·by_cases h2:s.length < 8
   ·rw[key _ _ 0 ⟨txt [],true⟩ (zck (m:=1) (n:=1) rfl (by omega) hs (by omega)) (zc3 (m:=7) (n:=7) rfl (by omega) (by rw[List.length_drop];omega) (by rw[List.length_drop];omega))]
    exact ⟨(⟨txt [],true⟩,_),zvv _ _ _,by rw[if_neg (by omega)]⟩
   ·have e2:=zck (m:=7) (n:=7) rfl (s:=s.drop 1) (b:=false) (by omega) (by rw[List.length_drop];omega) (by rw[List.length_drop];omega)
    rw[key _ _ _ _ (zck (m:=1) (n:=1) rfl (by omega) hs (by omega)) e2,List.drop_drop]
    obtain ⟨r,q1,q2⟩:=zagq (p0:=p0) k (s:=s.drop (1+7)) (p:={ p with Set:=p.Set++[⟨(num (s.take 1):Nat),(num ((s.drop 1).take 7):Nat)⟩] }) (by rw[List.length_drop];omega) (by simp only[yy6,yy5];omega)
    refine ⟨r,q1,?_⟩
    rw[List.length_drop] at q2
    by_cases h3:8*(k+1)≤s.length
    ·rw[if_pos h3]
     rw[if_pos (by omega)] at q2
     rw[q2,List.drop_drop,show 1+7+8*k=8*(k+1) by omega]
     simp[rdS]
    ·rw[if_neg h3]
     rwa [if_neg (by omega)] at q2
theorem zagr {p0:Packet}:∀ (k:Nat) {s:List UInt8} {p:Packet},s.length≤140737488355328→p.Done.length+k≤1000 →
  ∃ r:zef×Packet,zaq k p0 ⟨txt s,false⟩ p=some (p0,r.1,r.2) ∧
   (if k≤s.length then r=(⟨txt (s.drop k),false⟩,{ p with Done:=p.Done++rdD k s }) else r.1=⟨txt [],true⟩)
 | 0,s,p,hs,hp=>by
  refine ⟨(⟨txt s,false⟩,p),?_,?_⟩
  ·rw[zaq]
   refine zzz ?_
   simp only[zen]
   rw[Tr.rf (by simp),Tr.rl]
  ·rw[if_pos (by omega)];try simp[rdD]
 | k+1,s,p,hs,hp=>by
  have hw:i64.wrap (((k+1:Nat):Int) - 1)=(k:Int):=by rw[zj (by omega) (by omega)];omega
  have key:∀ (v1:Int) (t1:zef),zd 1 ⟨txt s,false⟩=some (v1,t1) →
    zaq (k+1:Nat) p0 ⟨txt s,false⟩ p=zaq k p0 t1 { p with Done:=p.Done++[v1] }:=by
   intro v1 t1 e1
   rw[zaq,zaq]
   refine zacc ?_
   simp only[zen]
   rw[Tr.rt (by first | (simp;omega) | simp)]
   simp only[e1,Option.isSome_some,yy2,hw]
   rw[Tr.rg (by trivial),Tr.rg (by simp only[znz,yy5];omega),Tr.rl]
  by_cases h1:s.length < 1
  ·rw[key 0 ⟨txt [],true⟩ (zc3 (m:=1) (n:=1) rfl (by omega) hs h1)]
   exact ⟨(⟨txt [],true⟩,_),zrg _ _ _,by rw[if_neg (by omega)]⟩
  ·rw[key _ _ (zck (m:=1) (n:=1) rfl (by omega) hs (by omega))]
   obtain ⟨r,q1,q2⟩:=zagr (p0:=p0) k (s:=s.drop 1) (p:={ p with Done:=p.Done++[((num (s.take 1):Nat):Int)] }) (by rw[List.length_drop];omega) (by simp only[yy6,yy5];omega)
   refine ⟨r,q1,?_⟩
   rw[List.length_drop] at q2
   by_cases h3:k+1≤s.length
   ·rw[if_pos h3]
    rw[if_pos (by omega)] at q2
    rw[q2,List.drop_drop,show 1+k=k+1 by omega]
    simp[rdD]
   ·rw[if_neg h3]
    rwa [if_neg (by omega)] at q2
def cnt (s:List UInt8):Nat:=num ((s.drop 15).take 1)
def cnt2 (s:List UInt8):Nat:=num ((s.drop (16+8*cnt s)).take 1)
def pkt (s:List UInt8):Packet :=
 ⟨(num (s.take 1):Nat),(num ((s.drop 1).take 6):Nat),(num ((s.drop 7).take 1):Nat),(num ((s.drop 8).take 7):Nat),rdS (cnt s) (s.drop 16),rdD (cnt2 s) (s.drop (17+8*cnt s))⟩
def zatz:Packet:=⟨0,0,0,0,[],[]⟩
def zar (s:List UInt8):Packet×Int :=
 if s.length≠17+8*cnt s+cnt2 s then (zatz,1) else if zca (pkt s)≠0 then (zatz,zca (pkt s)) else (pkt s,0)
theorem ztq {l:List UInt8}:num (l.take 1) < 256:=zaty (k:=1) (by rw[List.length_take];omega)
theorem z3v:∀ (k:Nat) (s:List UInt8),(rdS k s).length=k
 | 0,_=>rfl
 | k+1,s=>by rw[rdS,List.length_cons,z3v k]
theorem z3w:∀ (k:Nat) (s:List UInt8),(rdD k s).length=k
 | 0,_=>rfl
 | k+1,s=>by rw[rdD,List.length_cons,z3w k]
theorem zs9 {n k:Nat} {m:Int} (hm:m=n) (h1:1≤n) (hn:n≤7) {t:zef} (ht:t=⟨txt [],true⟩∨∃ s,t=⟨txt s,false⟩∧s.length < n+k∧s.length≤1000) :
  ∃ v t',zd m t=some (v,t')∧(t'=⟨txt [],true⟩∨∃ s,t'=⟨txt s,false⟩∧s.length < k∧s.length≤1000):=by
 rcases ht with rfl | ⟨s,rfl,h2,h3⟩
 ·exact ⟨_,_,zc3 hm hn (by simp) (by simp;omega),.inl rfl⟩
 ·by_cases h:s.length < n
  ·exact ⟨_,_,zc3 hm hn (by omega) h,.inl rfl⟩
  ·exact ⟨_,_,zck hm hn (by omega) (by omega),.inr ⟨_,rfl,by rw[List.length_drop];omega,by rw[List.length_drop];omega⟩⟩
theorem z1m {s:List UInt8} (hs:s.length≤140737488355328):zcd (txt s)=some (zar s):=by
 rw[zcd,zo6]
 by_cases h16:16≤s.length
 ·have e1:zd 1 ⟨txt s,false⟩=some (((num (s.take 1):Nat):Int),(⟨txt (s.drop 1),false⟩:zef)):=zck (n:=1) rfl (by omega) hs (by omega)
  have e2:zd 6 ⟨txt (s.drop 1),false⟩=some (((num ((s.drop 1).take 6):Nat):Int),(⟨txt (s.drop 7),false⟩:zef)):=by
   have h:=zck (n:=6) (m:=6) rfl (s:=s.drop 1) (b:=false) (by omega) (by rw[List.length_drop];omega) (by rw[List.length_drop];omega)
   rwa [List.drop_drop] at h
  have e3:zd 1 ⟨txt (s.drop 7),false⟩=some (((num ((s.drop 7).take 1):Nat):Int),(⟨txt (s.drop 8),false⟩:zef)):=by
   have h:=zck (n:=1) (m:=1) rfl (s:=s.drop 7) (b:=false) (by omega) (by rw[List.length_drop];omega) (by rw[List.length_drop];omega)
   rwa [List.drop_drop] at h
  have e4:zd 7 ⟨txt (s.drop 8),false⟩=some (((num ((s.drop 8).take 7):Nat):Int),(⟨txt (s.drop 15),false⟩:zef)):=by
   have h:=zck (n:=7) (m:=7) rfl (s:=s.drop 8) (b:=false) (by omega) (by rw[List.length_drop];omega) (by rw[List.length_drop];omega)
   rwa [List.drop_drop] at h
  have e5:zd 1 ⟨txt (s.drop 15),false⟩=some (((cnt s:Nat):Int),(⟨txt (s.drop 16),false⟩:zef)):=by
   have h:=zck (n:=1) (m:=1) rfl (s:=s.drop 15) (b:=false) (by omega) (by rw[List.length_drop];omega) (by rw[List.length_drop];omega)
   rwa [List.drop_drop] at h
  obtain ⟨r,f1,f2⟩:=zagq (p0:=⟨0,0,0,0,[],[]⟩) (cnt s) (s:=s.drop 16) (p:=⟨(num (s.take 1):Nat),(num ((s.drop 1).take 6):Nat),(num ((s.drop 7).take 1):Nat),(num ((s.drop 8).take 7):Nat),[],[]⟩)
   (by rw[List.length_drop];omega) (by have:cnt s < 256:=ztq;simp only[List.length_nil];omega)
  rw[Tr.rb e1,Tr.rb e2,Tr.rb e3,Tr.rb e4,Tr.rb e5,Tr.rb f1]
  rw[List.length_drop] at f2
  unfold zar
  by_cases h8:8*cnt s≤s.length - 16
  ·rw[if_pos h8,List.drop_drop] at f2
   rw[f2]
   simp only[List.nil_append]
   by_cases h1:s.length < 17+8*cnt s
   ·rw[Tr.rb (zc3 (m:=1) (n:=1) rfl (by omega) (by rw[List.length_drop];omega) (by rw[List.length_drop];omega)),Tr.rb (zrg _ _ _),Tr.rt (by simp),Tr.rl,if_pos (by omega)]
    rfl
   ·have e6:zd 1 ⟨txt (s.drop (16+8*cnt s)),false⟩=some (((cnt2 s:Nat):Int),(⟨txt (s.drop (17+8*cnt s)),false⟩:zef)):=by
     have h:=zck (n:=1) (m:=1) rfl (s:=s.drop (16+8*cnt s)) (b:=false) (by omega) (by rw[List.length_drop];omega) (by rw[List.length_drop];omega)
     rwa [List.drop_drop,show 16+8*cnt s+1=17+8*cnt s by omega] at h
    rw[Tr.rb e6]
    obtain ⟨r',g1,g2⟩:=zagr (p0:=⟨0,0,0,0,[],[]⟩) (cnt2 s) (s:=s.drop (17+8*cnt s)) (p:=⟨(num (s.take 1):Nat),(num ((s.drop 1).take 6):Nat),(num ((s.drop 7).take 1):Nat),(num ((s.drop 8).take 7):Nat),rdS (cnt s) (s.drop 16),[]⟩)
     (by rw[List.length_drop];omega) (by have:cnt2 s < 256:=ztq;simp only[List.length_nil];omega)
    rw[Tr.rb g1]
    rw[List.length_drop] at g2
    by_cases h2:cnt2 s≤s.length - (17+8*cnt s)
    ·rw[if_pos h2,List.drop_drop] at g2
     rw[g2]
     simp only[List.nil_append,ByteArray.toList_eq,ztp]
     by_cases h3:s.length≠17+8*cnt s+cnt2 s
     ·rw[if_pos h3,Tr.rt (by simp;omega),Tr.rl]
      rfl
     ·rw[if_neg h3,Tr.rf (by simp;omega)]
      refine (Tr.rb (zxe (p:=pkt s) (by rw[pkt,z3v];have:cnt s < 256:=ztq;omega) (by rw[pkt,z3w];have:cnt2 s < 256:=ztq;omega))).trans ?_
      by_cases h4:zca (pkt s)=0
      ·rw[if_neg (by simpa using h4),Tr.rf (by simpa using h4),Tr.rl];rfl
      ·rw[if_pos h4,Tr.rt (by simpa using h4),Tr.rl];rfl
    ·rw[if_neg h2] at g2
     rw[g2,Tr.rt (by simp),Tr.rl,if_pos (by omega)]
     rfl
  ·rw[if_neg h8] at f2
   rw[f2,Tr.rb (zc3 (m:=1) (n:=1) rfl (by omega) (by simp) (by simp)),Tr.rb (zrg _ _ _),Tr.rt (by simp),Tr.rl,if_pos (by omega)]
   rfl
 ·obtain ⟨v1,t1,e1,k1⟩:=zs9 (m:=1) (n:=1) rfl (k:=15) (by omega) (by omega) (.inr ⟨s,rfl,by omega,by omega⟩)
  obtain ⟨v2,t2,e2,k2⟩:=zs9 (m:=6) (n:=6) rfl (k:=9) (by omega) (by omega) k1
  obtain ⟨v3,t3,e3,k3⟩:=zs9 (m:=1) (n:=1) rfl (k:=8) (by omega) (by omega) k2
  obtain ⟨v4,t4,e4,k4⟩:=zs9 (m:=7) (n:=7) rfl (k:=1) (by omega) (by omega) k3
  obtain ⟨v5,t5,e5,k5⟩:=zs9 (m:=1) (n:=1) rfl (k:=0) (by omega) (by omega) k4
  obtain rfl:t5=⟨txt [],true⟩:=by rcases k5 with h | ⟨_,_,h,_⟩;exact h;omega
  rw[Tr.rb e1,Tr.rb e2,Tr.rb e3,Tr.rb e4,Tr.rb e5,Tr.rb (zvv _ _ _),
   Tr.rb (zc3 (m:=1) (n:=1) rfl (by omega) (by simp) (by simp)),Tr.rb (zrg _ _ _),Tr.rt (by simp),Tr.rl]
  unfold zar
  rw[if_pos (by omega)]
  rfl
theorem zaj2 (n:Nat) (s:List UInt8):rdS (n+1) s=⟨(num (s.take 1):Nat),(num ((s.drop 1).take 7):Nat)⟩::rdS n (s.drop 8):=rfl
theorem zaj3 (n:Nat) (s:List UInt8):rdD (n+1) s=((num (s.take 1):Nat):Int)::rdD n (s.drop 1):=rfl
theorem zrh {x:Int} {k:Nat} {r:List UInt8}:(be x k++r).take k=be x k:=List.take_left' (zcz k)
theorem zpi {x:Int} {k:Nat} {r:List UInt8}:(be x k++r).drop k=r:=List.drop_left' (zcz k)
theorem zagt:∀ (l:List Power) (e:List UInt8),(∀ q,q∈l→0≤q.V∧q.V≤5∧0≤q.N∧q.N≤1125899906842624)→rdS l.length (z5y l++e)=l
 | [],e,h=>rfl
 | q::l,e,h=>by
  obtain ⟨h1,h2,h3,h4⟩:=h q (List.mem_cons_self ..)
  have ih:=zagt l e (fun x hx=>h x (List.mem_cons_of_mem _ hx))
  rw[List.length_cons,zaj2,z1h,List.append_assoc,List.append_assoc,zrh,zpi,zrh,show 8=1+7 from rfl,← List.drop_drop,zpi,zpi,ih,zxg h1 (by omega),zxg h3 (by omega)]
theorem zagu:∀ (l:List Int) (e:List UInt8),(∀ q,q∈l→0≤q∧q≤5)→rdD l.length (z71 l++e)=l
 | [],e,h=>rfl
 | q::l,e,h=>by
  obtain ⟨h1,h2⟩:=h q (List.mem_cons_self ..)
  have ih:=zagu l e (fun x hx=>h x (List.mem_cons_of_mem _ hx))
  rw[List.length_cons,zaj3,z1i,List.append_assoc,zrh,zpi,ih,zxg h1 (by omega)]
theorem zri (p:Packet):(zl3 p).length=17+8*p.Set.length+p.Done.length:=by
 unfold zl3
 simp only[yy6,zcz,zrf,z1j]
 omega
theorem back {p:Packet} (hg:zca p=0) (e:List UInt8):cnt (zl3 p++e)=p.Set.length∧cnt2 (zl3 p++e)=p.Done.length∧pkt (zl3 p++e)=p:=by
 obtain ⟨g1,g2,g3,g4,g5,g6,g7,g8,g9,g10,_,_⟩:=zmu hg
 have l1:=zkb g9 (by omega)
 have l2:=zto g10 (by omega)
 have hs:zl3 p++e=be p.Kind 1++(be p.Id 6++(be p.V 1++(be p.N 7++(be p.Set.length 1++(z5y p.Set++(be p.Done.length 1++(z71 p.Done++e))))))):=by
  unfold zl3;simp only[List.append_assoc]
 have d1:(zl3 p++e).drop 1=be p.Id 6++(be p.V 1++(be p.N 7++(be p.Set.length 1++(z5y p.Set++(be p.Done.length 1++(z71 p.Done++e)))))):=by rw[hs,zpi]
 have d7:(zl3 p++e).drop 7=be p.V 1++(be p.N 7++(be p.Set.length 1++(z5y p.Set++(be p.Done.length 1++(z71 p.Done++e))))):=by rw[show 7=1+6 from rfl,← List.drop_drop,d1,zpi]
 have d8:(zl3 p++e).drop 8=be p.N 7++(be p.Set.length 1++(z5y p.Set++(be p.Done.length 1++(z71 p.Done++e)))):=by rw[show 8=7+1 from rfl,← List.drop_drop,d7,zpi]
 have d15:(zl3 p++e).drop 15=be p.Set.length 1++(z5y p.Set++(be p.Done.length 1++(z71 p.Done++e))):=by rw[show 15=8+7 from rfl,← List.drop_drop,d8,zpi]
 have d16:(zl3 p++e).drop 16=z5y p.Set++(be p.Done.length 1++(z71 p.Done++e)):=by rw[show 16=15+1 from rfl,← List.drop_drop,d15,zpi]
 have c1:cnt (zl3 p++e)=p.Set.length:=by
  have:=zxg (x:=(p.Set.length:Int)) (k:=1) (by omega) (by omega)
  unfold cnt
  rw[d15,zrh];omega
 have dd:(zl3 p++e).drop (16+8*p.Set.length)=be p.Done.length 1++(z71 p.Done++e):=by rw[← List.drop_drop,d16,List.drop_left' (zrf _)]
 have c2:cnt2 (zl3 p++e)=p.Done.length:=by
  have:=zxg (x:=(p.Done.length:Int)) (k:=1) (by omega) (by omega)
  unfold cnt2
  rw[c1,dd,zrh];omega
 have dz:(zl3 p++e).drop (17+8*p.Set.length)=z71 p.Done++e:=by rw[show 17+8*p.Set.length=16+8*p.Set.length+1 by omega,← List.drop_drop,dd,zpi]
 refine ⟨c1,c2,?_⟩
 unfold pkt
 rw[c1,c2,dz,d16,d8,d7,d1,zrh,zrh,zrh,zagt _ _ (zmt (by omega) g9 (by omega)),zagu _ _ (ztn g10 (by omega))]
 rw[show (zl3 p++e).take 1=be p.Kind 1 by rw[hs,zrh]]
 rw[zxg (by omega) (by omega),zxg (by omega) (by omega),zxg (by omega) (by omega),zxg (by omega) (by omega)]
theorem zvw {p:Packet} (hg:zca p=0):zar (zl3 p)=(p,0):=by
 obtain ⟨b1,b2,b3⟩:=back hg []
 rw[List.append_nil] at b1 b2 b3
 unfold zar
 rw[b1,b2,b3,if_neg (by rw[zri];omega),if_neg (by simpa using hg)]
theorem zaai {p:Packet} (h:¬ zca p=0):zgi p=(txt [],zca p):=if_neg h
theorem zlc {p:Packet} (h:zca p=0):zgi p=(txt (zl3 p),0):=if_pos h
theorem zbh (y:Int):u64.wrap y=y % 18446744073709551616:=by
 unfold IntKind.wrap
 simp[IntKind.bits,IntKind.signed]
theorem u8w (y:Int):IntKind.u8.wrap y=y % 256:=by
 unfold IntKind.wrap
 simp[IntKind.bits,IntKind.signed]
theorem zagv (n:Nat):u64.wrap ((n:Nat):Int)=((n % 18446744073709551616:Nat):Int):=by rw[zbh];omega
theorem zld {n:Nat} (h:n < 18446744073709551616):u64.wrap ((n:Nat):Int)=((n:Nat):Int):=by rw[zbh];omega
theorem z5z (n k:Nat):Int.fdiv (n:Int) (2 ^ k)=((n / 2 ^ k:Nat):Int):=by
 rw[Int.fdiv_eq_ediv_of_nonneg _ (Int.le_of_lt (Int.pow_pos (by omega))),Int.natCast_ediv,Int.natCast_pow];rfl
theorem zacd (n:Nat):(BitVec.ofInt 64 (n:Int) &&& BitVec.ofInt 64 4294967295).toNat=n % 4294967296:=by
 rw[BitVec.ofInt_natCast,show (4294967295:Int)=((4294967295:Nat):Int) from rfl,BitVec.ofInt_natCast,BitVec.toNat_and,BitVec.toNat_ofNat,BitVec.toNat_ofNat]
 rw[show 4294967295 % 2 ^ 64=2 ^ 32 - 1 by decide,Nat.and_two_pow_sub_one_eq_mod]
 omega
theorem zta {x y:Nat} (hx:x < 4294967296) (hy:y < 4294967296):x*y≤18446744065119617025:=by
 have:=Nat.mul_le_mul (show x≤4294967295 by omega) (show y≤4294967295 by omega)
 omega
theorem zaj4 {a b:Nat} (ha:a < 18446744073709551616) (hb:b < 18446744073709551616) :
  zis a b=some (((a*b / 18446744073709551616:Nat):Int),((a*b % 18446744073709551616:Nat):Int)):=by
 rw[zis,zjv]
 iterate 5 rw[Tr.rg (by omega)]
 rw[Tr.rl]
 simp only[z5z,zacd,zagv,← Int.natCast_mul,← Int.natCast_add]
 have hx:a=4294967296*(a / 4294967296)+a % 4294967296:=by omega
 have hy:b=4294967296*(b / 4294967296)+b % 4294967296:=by omega
 rw[show (2:Nat) ^ 32=4294967296 by decide]
 generalize hx1:a / 4294967296=x1 at *
 generalize hx0:a % 4294967296=x0 at *
 generalize hy1:b / 4294967296=y1 at *
 generalize hy0:b % 4294967296=y0 at *
 have p11:=zta (x:=x1) (y:=y1) (by omega) (by omega)
 have p10:=zta (x:=x1) (y:=y0) (by omega) (by omega)
 have p01:=zta (x:=x0) (y:=y1) (by omega) (by omega)
 have p00:=zta (x:=x0) (y:=y0) (by omega) (by omega)
 have hp:a*b=18446744073709551616*(x1*y1)+4294967296*(x1*y0)+4294967296*(x0*y1)+x0*y0:=by
  rw[hx,hy,Nat.add_mul,Nat.mul_add,Nat.mul_add,Nat.mul_assoc,Nat.mul_assoc,Nat.mul_left_comm x1,Nat.mul_left_comm x0];omega
 rw[hp,Nat.mod_eq_of_lt (a:=x0) (by omega),Nat.mod_eq_of_lt (a:=y0) (by omega)]
 generalize x1*y1=q11 at *
 generalize x1*y0=q10 at *
 generalize x0*y1=q01 at *
 generalize x0*y0=q00 at *
 congr 3
 omega
def zao5 (l:List UInt8):Bool:=(List.range 256).all fun k=>k==0||(decide (1≤(l.getD k 0).toNat)&&decide ((l.getD k 0).toNat≤8)&&decide (2 ^ ((l.getD k 0).toNat - 1)≤k)&&decide (k < 2 ^ (l.getD k 0).toNat))
theorem zaj5 {l:List UInt8} (h:zao5 l=true) {k:Nat} (h0:0 < k) (h1:k < 256) :
  1≤(l.getD k 0).toNat∧(l.getD k 0).toNat≤8∧2 ^ ((l.getD k 0).toNat - 1)≤k∧k < 2 ^ (l.getD k 0).toNat:=by
 have:=List.all_eq_true.1 h k (List.mem_range.2 h1)
 simp only[Bool.or_eq_true,beq_iff_eq,yy7,decide_eq_true_eq] at this
 rcases this with h | ⟨⟨⟨h2,h3⟩,h4⟩,h5⟩
 ·omega
 ·exact ⟨h2,h3,h4,h5⟩
theorem zat0 {n m t:Nat} (h1:1≤t) (h2:2 ^ (t - 1)≤n / 2 ^ m) (h3:n / 2 ^ m < 2 ^ t):2 ^ (m+t - 1)≤n∧n < 2 ^ (m+t):=by
 constructor
 ·have:=(Nat.le_div_iff_mul_le (Nat.pow_pos (by omega))).1 h2
  rwa [← Nat.pow_add,show t - 1+m=m+t - 1 by omega] at this
 ·have:=(Nat.div_lt_iff_lt_mul (Nat.pow_pos (by omega))).1 h3
  rwa [← Nat.pow_add,Nat.add_comm] at this
theorem zaj6 {l:List UInt8} (h:zao5 l=true) {n m:Nat} (hm:m≤56) (h0:0 < n / 2 ^ m) (h1:n / 2 ^ m < 256) :
  ∃ t:Nat,i64.wrap ((m:Int)+i64.wrap (((l.getD (IntKind.u8.wrap ((n / 2 ^ m:Nat):Int)).toNat 0).toNat:Nat):Int))=(t:Int)∧1≤t∧t≤64∧2 ^ (t - 1)≤n∧n < 2 ^ t:=by
 have e:(IntKind.u8.wrap ((n / 2 ^ m:Nat):Int)).toNat=n / 2 ^ m:=by rw[u8w];omega
 rw[e]
 obtain ⟨k1,k2,k3,k4⟩:=zaj5 h h0 h1
 generalize (l.getD (n / 2 ^ m) 0).toNat=t at *
 obtain ⟨u1,u2⟩:=zat0 k1 k3 k4
 refine ⟨m+t,?_,by omega,by omega,u1,u2⟩
 rw[zj (x:=(t:Int)) (by omega) (by omega),zj (by omega) (by omega)]
 omega
theorem zaj7 {n:Nat} (h0:0 < n) (h1:n < 18446744073709551616):∃ t:Nat,zit n=some (t:Int)∧1≤t∧t≤64∧2 ^ (t - 1)≤n∧n < 2 ^ t:=by
 rw[zit,zjw]
 generalize hl:tabB=tab
 have htab:zao5 tab.data.toList=true:=by rw[← hl];decide +kernel
 have hsz:tab.size=256:=by rw[← hl];decide +kernel
 clear hl
 simp only[z5z,Nat.div_div_eq_div_mul,← Nat.pow_add,hsz]
 have fin:∀ {m:Nat} {x:Int},m≤56→x=m→0 < n / 2 ^ m→n / 2 ^ m < 256→∃ t:Nat,(Tr.guard ((0:Int)≤IntKind.u8.wrap ((n / 2 ^ m:Nat):Int)∧IntKind.u8.wrap ((n / 2 ^ m:Nat):Int) < ((256:Nat):Int)) (.leaf (i64.wrap (x+i64.wrap (((tab.data.toList.getD (IntKind.u8.wrap ((n / 2 ^ m:Nat):Int)).toNat 0).toNat:Nat):Int))))).run=some (t:Int)∧1≤t∧t≤64∧2 ^ (t - 1)≤n∧n < 2 ^ t:=by
  intro m x hm hx g0 g1
  subst hx
  obtain ⟨t,e,k⟩:=zaj6 htab hm g0 g1
  exact ⟨t,by rw[Tr.rg (by rw[u8w];omega),Tr.rl,e],k⟩
 by_cases c1:n≥4294967296
 ·rw[Tr.rt (by simp;omega),Tr.rg (by omega)]
  by_cases c2:n / 2 ^ 32≥65536
  ·rw[Tr.rt (by simp;omega),Tr.rg (by omega)]
   by_cases c3:n / 2 ^ (32+16)≥256
   ·rw[Tr.rt (by simp;omega),Tr.rg (by omega)]
    exact fin (m:=32+16+8) (by omega) rfl (by omega) (by omega)
   ·rw[Tr.rf (by simp;omega)]
    exact fin (m:=32+16) (by omega) rfl (by omega) (by omega)
  ·rw[Tr.rf (by simp;omega)]
   by_cases c3:n / 2 ^ 32≥256
   ·rw[Tr.rt (by simp;omega),Tr.rg (by omega)]
    exact fin (m:=32+8) (by omega) rfl (by omega) (by omega)
   ·rw[Tr.rf (by simp;omega)]
    exact fin (m:=32) (by omega) rfl (by omega) (by omega)
 ·rw[Tr.rf (by simp;omega)]
  by_cases c2:n≥65536
  ·rw[Tr.rt (by simp;omega),Tr.rg (by omega)]
   by_cases c3:n / 2 ^ 16≥256
   ·rw[Tr.rt (by simp;omega),Tr.rg (by omega)]
    exact fin (m:=16+8) (by omega) rfl (by omega) (by omega)
   ·rw[Tr.rf (by simp;omega)]
    exact fin (m:=16) (by omega) rfl (by omega) (by omega)
  ·rw[Tr.rf (by simp;omega)]
   by_cases c3:n≥256
   ·rw[Tr.rt (by simp;omega),Tr.rg (by omega)]
    exact fin (m:=8) (by omega) rfl (by omega) (by omega)
   ·rw[Tr.rf (by simp;omega)]
    have:=fin (m:=0) (x:=0) (by omega) rfl (by simpa using h0) (by simp;omega)
    simpa using this
theorem zao6 {n:Nat} (h0:0 < n) (h1:n < 18446744073709551616):∃ s:Nat,zc6 n=some (s:Int)∧s≤63∧9223372036854775808≤n*2 ^ s∧n*2 ^ s < 18446744073709551616:=by
 obtain ⟨t,e,k1,k2,k3,k4⟩:=zaj7 h0 h1
 refine ⟨64 - t,?_,by omega,?_,?_⟩
 ·rw[zc6,zdk,Tr.rb e,Tr.rl,zj (by omega) (by omega)]
  congr 1;omega
 ·have:=Nat.mul_le_mul_right (2 ^ (64 - t)) k3
  rw[← Nat.pow_add,show t - 1+(64 - t)=63 by omega] at this
  exact this
 ·have:=Nat.mul_lt_mul_of_pos_right k4 (show 0 < 2 ^ (64 - t) from Nat.pow_pos (by omega))
  rw[← Nat.pow_add,show t+(64 - t)=64 by omega] at this
  exact this
set_option maxRecDepth 100000
theorem zhn {σ ρ:Type} {F:σ→Option (σ⊕ρ)} {s s':σ} (h:F s=some (.inl s')):zdv F s=zdv F s':=by rw[zqn,h]
theorem zle {σ ρ:Type} {F:σ→Option (σ⊕ρ)} {s:σ} {r:ρ} (h:F s=some (.inr r)):zdv F s=some r:=by rw[zqn,h]
structure Dig (y1 y0 u d t q r:Nat):Prop where
 hy1:2147483648≤y1
 hy1':y1 < 4294967296
 hy0:y0 < 4294967296
 hd:d < 4294967296
 hu:u < y1*4294967296+y0
 t1:t*(y1*4294967296+y0)≤u*4294967296+d
 t2:u*4294967296+d < (t+1)*(y1*4294967296+y0)
 qr:q*y1+r=u
 hr:r < 4294967296
 hq:t≤q
 hq':q≤4294967297
theorem Dig.small {y1 y0 u d t q r:Nat} (h:Dig y1 y0 u d t q r):t < 4294967296:=by
 have a:=h.hy1;have b:=h.hu;have c:=h.t1;have e:=h.hd
 refine Classical.byContradiction fun hn=>?_
 have:=Nat.mul_le_mul_right (y1*4294967296+y0) (show 4294967296≤t by omega)
 omega
theorem Dig.done {y1 y0 u d t q r:Nat} (h1:t*(y1*4294967296+y0)≤u*4294967296+d) (h2:u*4294967296+d < (t+1)*(y1*4294967296+y0)) (hqr:q*y1+r=u) (hq:t≤q)
  (hc:q*y0≤r*4294967296+d):q=t:=by
 have e:q*(y1*4294967296+y0)≤u*4294967296+d:=by
  rw[Nat.mul_add,← Nat.mul_assoc];omega
 refine Classical.byContradiction fun hn=>?_
 have:=Nat.mul_le_mul_right (y1*4294967296+y0) (show t+1≤q by omega)
 omega
theorem Dig.more {y1 y0 u d t q r:Nat} (h:Dig y1 y0 u d t q r) (hc:q≥4294967296∨r*4294967296+d < q*y0):t < q:=by
 rcases hc with hc | hc
 ·have:=h.small;omega
 ·have h1:=h.t1;have h3:=h.qr;have h4:=h.hq
  refine Classical.byContradiction fun hn=>?_
  obtain rfl:t=q:=by omega
  rw[Nat.mul_add,← Nat.mul_assoc] at h1
  omega
theorem Dig.brk {y1 y0 u d t q r:Nat} (h:Dig y1 y0 u d t q r) (hlt:t < q) (hr:4294967296≤r+y1):q - 1=t:=by
 obtain ⟨p,rfl⟩:∃ p,q=p+1:=⟨q - 1,by omega⟩
 have h3:=h.qr;have h4:=h.hy0;have h5:=h.hq'
 rw[Nat.succ_mul] at h3
 refine Dig.done (y1:=y1) (y0:=y0) (u:=u) (d:=d) (r:=r+y1) h.t1 h.t2 (by rw[Nat.add_sub_cancel];omega) (by omega) ?_
 rw[Nat.add_sub_cancel]
 have:=Nat.mul_le_mul (show p≤4294967296 by omega) (show y0≤4294967295 by omega)
 omega
theorem Dig.next {y1 y0 u d t q r:Nat} (h:Dig y1 y0 u d t q r) (hlt:t < q) (hr:r+y1 < 4294967296):Dig y1 y0 u d t (q - 1) (r+y1):=by
 obtain ⟨p,rfl⟩:∃ p,q=p+1:=⟨q - 1,by omega⟩
 have h3:=h.qr;have h5:=h.hq'
 rw[Nat.succ_mul] at h3
 exact ⟨h.hy1,h.hy1',h.hy0,h.hd,h.hu,h.t1,h.t2,by rw[Nat.add_sub_cancel];omega,hr,by omega,by omega⟩
theorem zz0 {q:Nat} (h:0 < q) (h':q < 18446744073709551616):u64.wrap ((q:Int) - 1)=((q - 1:Nat):Int):=by rw[zbh];omega
theorem zao7 {x0 x1 x4 x6:Int} {y1 y0 u d t:Nat}:∀ (n q r:Nat),q≤n→Dig y1 y0 u d t q r →
  zcb x0 x1 y1 y0 x4 d x6 q r=some (x0,x1,(y1:Int),(y0:Int),x4,(d:Int),x6,(t:Int)):=by
 intro n
 induction n with
 | zero =>
  intro q r hn h
  have h5:=h.hq
  obtain rfl:q=0:=by omega
  obtain rfl:t=0:=by omega
  have h6:=h.hr
  rw[zcb]
  refine zle ?_
  simp only[zbs]
  rw[Tr.rf (by simp[zbh];omega),Tr.rl]
 | succ n ih =>
  intro q r hn h
  have a1:=h.hy1;have a2:=h.hy1';have a3:=h.hy0;have a4:=h.hd;have a5:=h.hr;have a6:=h.hq'
  rw[zcb]
  by_cases hc:q≥4294967296∨r*4294967296+d < q*y0
  ·have hlt:=h.more hc
   have hT:((decide ((q:Int)≥4294967296))||(decide ((u64.wrap ((q:Int)*(y0:Int))) > (u64.wrap ((u64.wrap (4294967296*(r:Int)))+(d:Int))))))=true:=by
    by_cases hq:q≥4294967296
    ·rw[decide_eq_true (by omega)];rfl
    ·have hm:=zta (x:=q) (y:=y0) (by omega) a3
     rcases hc with hc | hc
     ·omega
     ·rw[← Int.natCast_mul,zld (by omega),zbh,zbh,decide_eq_true (p:=((q*y0:Nat):Int) > _) (by omega),Bool.or_true]
   by_cases hb:r+y1≥4294967296
   ·refine zle ?_
    simp only[zbs]
    rw[Tr.rt hT,Tr.rt (by rw[zbh];simp;omega),Tr.rl,zz0 (by omega) (by omega),h.brk hlt hb]
   ·rw[← ih (q - 1) (r+y1) (by omega) (h.next hlt (by omega)),zcb]
    refine zhn ?_
    simp only[zbs]
    rw[Tr.rt hT,Tr.rf (by rw[zbh];simp;omega),Tr.rl,zz0 (by omega) (by omega),← Int.natCast_add,zld (by omega)]
  ·have hq:q < 4294967296:=by omega
   have hm:=zta (x:=q) (y:=y0) hq a3
   have he:q=t:=Dig.done h.t1 h.t2 h.qr h.hq (by omega)
   refine zle ?_
   simp only[zbs]
   rw[Tr.rf (by
    rw[decide_eq_false (by omega),Bool.false_or,← Int.natCast_mul,zld (by omega),zbh,zbh,decide_eq_false (by omega)]),Tr.rl,he]
theorem zao8 {x0 x1 x5 x7:Int} {y1 y0 u d t:Nat}:∀ (n q r:Nat),q≤n→Dig y1 y0 u d t q r →
  zcc x0 x1 y1 y0 d x5 r x7 q=some (x0,x1,(d:Int),x5,x7,(t:Int)):=by
 intro n
 induction n with
 | zero =>
  intro q r hn h
  have h5:=h.hq
  obtain rfl:q=0:=by omega
  obtain rfl:t=0:=by omega
  have h6:=h.hr
  rw[zcc]
  refine zle ?_
  simp only[zbt]
  rw[Tr.rf (by simp[zbh];omega),Tr.rl]
 | succ n ih =>
  intro q r hn h
  have a1:=h.hy1;have a2:=h.hy1';have a3:=h.hy0;have a4:=h.hd;have a5:=h.hr;have a6:=h.hq'
  rw[zcc]
  by_cases hc:q≥4294967296∨r*4294967296+d < q*y0
  ·have hlt:=h.more hc
   have hT:((decide ((q:Int)≥4294967296))||(decide ((u64.wrap ((q:Int)*(y0:Int))) > (u64.wrap ((u64.wrap (4294967296*(r:Int)))+(d:Int))))))=true:=by
    by_cases hq:q≥4294967296
    ·rw[decide_eq_true (by omega)];rfl
    ·have hm:=zta (x:=q) (y:=y0) (by omega) a3
     rcases hc with hc | hc
     ·omega
     ·rw[← Int.natCast_mul,zld (by omega),zbh,zbh,decide_eq_true (p:=((q*y0:Nat):Int) > _) (by omega),Bool.or_true]
   by_cases hb:r+y1≥4294967296
   ·refine zle ?_
    simp only[zbt]
    rw[Tr.rt hT,Tr.rt (by rw[zbh];simp;omega),Tr.rl,zz0 (by omega) (by omega),h.brk hlt hb]
   ·rw[← ih (q - 1) (r+y1) (by omega) (h.next hlt (by omega)),zcc]
    refine zhn ?_
    simp only[zbt]
    rw[Tr.rt hT,Tr.rf (by rw[zbh];simp;omega),Tr.rl,zz0 (by omega) (by omega),← Int.natCast_add,zld (by omega)]
  ·have hq:q < 4294967296:=by omega
   have hm:=zta (x:=q) (y:=y0) hq a3
   have he:q=t:=Dig.done h.t1 h.t2 h.qr h.hq (by omega)
   refine zle ?_
   simp only[zbt]
   rw[Tr.rf (by
    rw[decide_eq_false (by omega),Bool.false_or,← Int.natCast_mul,zld (by omega),zbh,zbh,decide_eq_false (by omega)]),Tr.rl,he]
theorem z74 {y1 y0 u d:Nat} (hy1:2147483648≤y1) (hy1':y1 < 4294967296) (hy0:y0 < 4294967296) (hd:d < 4294967296) (hu:u < y1*4294967296+y0) :
  Dig y1 y0 u d ((u*4294967296+d) / (y1*4294967296+y0)) (u / y1) (u - u / y1*y1):=by
 have hpos:0 < y1*4294967296+y0:=by omega
 have e1:=Nat.div_add_mod u y1
 have e2:=Nat.mod_lt u (show y1 > 0 by omega)
 rw[Nat.mul_comm] at e1
 have f1:=Nat.div_add_mod (u*4294967296+d) (y1*4294967296+y0)
 have f2:=Nat.mod_lt (u*4294967296+d) hpos
 rw[Nat.mul_comm] at f1
 have hq':u / y1≤4294967297:=by
  refine Classical.byContradiction fun hn=>?_
  have:=Nat.mul_le_mul_right y1 (show 4294967298≤u / y1 by omega)
  omega
 generalize ht:(u*4294967296+d) / (y1*4294967296+y0)=t at *
 generalize hq:u / y1=q at *
 refine ⟨hy1,hy1',hy0,hd,hu,by omega,by rw[Nat.succ_mul];omega,by omega,by omega,?_,hq'⟩
 refine Classical.byContradiction fun hn=>?_
 have h1:=Nat.mul_le_mul_right (y1*4294967296+y0) (show q+1≤t by omega)
 rw[Nat.mul_add,← Nat.mul_assoc,Nat.succ_mul] at h1
 omega
theorem zat1 {a b s:Nat} (hb:b < 2 ^ s) (ha:a*2 ^ s+b < 18446744073709551616):(BitVec.ofInt 64 ((a*2 ^ s:Nat):Int) ||| BitVec.ofInt 64 (b:Int)).toNat=a*2 ^ s+b:=by
 rw[BitVec.ofInt_natCast,BitVec.ofInt_natCast,BitVec.toNat_or,BitVec.toNat_ofNat,BitVec.toNat_ofNat,Nat.mod_eq_of_lt (by omega),Nat.mod_eq_of_lt (by omega)]
 have h3:=Nat.shiftLeft_add_eq_or_of_lt hb a
 rw[Nat.shiftLeft_eq] at h3
 exact h3.symm
theorem zagw {u z v q1 q0 z1 z0 u2:Nat} (h1:u*4294967296+z1=q1*v+u2) (h2:z=z1*4294967296+z0) (h3:q0*v≤u2*4294967296+z0) (h4:u2*4294967296+z0 < (q0+1)*v) :
  (u*18446744073709551616+z) / v=q1*4294967296+q0:=by
 have m1:(q1*4294967296+q0)*v=q1*v*4294967296+q0*v:=by rw[Nat.add_mul,Nat.mul_right_comm]
 have m2:(q1*4294967296+q0+1)*v=q1*v*4294967296+q0*v+v:=by rw[Nat.add_one_mul,m1]
 have m3:(q0+1)*v=q0*v+v:=Nat.add_one_mul q0 v
 rw[m3] at h4
 obtain ⟨k,hk⟩:∃ k,k=q1*v:=⟨_,rfl⟩
 obtain ⟨j,hj⟩:∃ j,j=q0*v:=⟨_,rfl⟩
 rw[← hk] at h1 m1 m2
 rw[← hj] at h3 h4 m1 m2
 have a1:k*4294967296+j≤u*18446744073709551616+z:=by clear m1 m2 m3 hk hj;omega
 have a2:u*18446744073709551616+z < k*4294967296+j+v:=by
  have h5:u*18446744073709551616+z1*4294967296=k*4294967296+u2*4294967296:=by
   have:=congrArg (·*4294967296) h1
   simpa only [Nat.add_mul,Nat.mul_assoc,Nat.reduceMul] using this
  obtain ⟨U,hU⟩:∃ U,U=u*18446744073709551616:=⟨_,rfl⟩
  obtain ⟨K,hK⟩:∃ K,K=k*4294967296:=⟨_,rfl⟩
  rw[← hU,← hK] at h5 ⊢
  clear m1 m2 m3 hk hj h1 hU hK h3;omega
 rw[← m1] at a1
 rw[← m2] at a2
 exact Nat.div_eq_of_lt_le a1 a2
theorem zaj8 {h l y:Nat} (hh:h < y) (hl:l < 18446744073709551616) (hy:y < 18446744073709551616) :
  ∃ r,ziu h l y=some ((((h*18446744073709551616+l) / y:Nat):Int),r):=by
 rw[ziu,zjx,Tr.rf (by simp;omega),Tr.rf (by simp;omega)]
 by_cases h0:h=0
 ·subst h0
  refine ⟨Int.tmod l y,?_⟩
  rw[Tr.rt (by simp),Tr.rg (by omega),Tr.rg (by omega),Tr.rl,z9i (by omega),← Int.natCast_ediv,zld (by have:=Nat.div_le_self l y;omega),Nat.zero_mul,Nat.zero_add]
 ·obtain ⟨s,e0,s1,s2,s3⟩:=zao6 (n:=y) (by omega) hy
  rw[Tr.rf (by simp;omega),Tr.rb e0]
  have hs0:0 < 2 ^ s:=Nat.pow_pos (by omega)
  have w1:u64.wrap ((s:Nat):Int)=(s:Int):=zld (by omega)
  have w2:u64.wrap (64 - (s:Int))=((64 - s:Nat):Int):=by rw[zbh];omega
  have m1:min s 64=s:=by omega
  have m2:min (64 - s) 64=64 - s:=by omega
  have c2:(2:Int) ^ s=((2 ^ s:Nat):Int):=by rw[Int.natCast_pow];rfl
  have hle:h*2 ^ s+l / 2 ^ (64 - s) < y*2 ^ s:=by
   have a1:=Nat.mul_le_mul_right (2 ^ s) (show h+1≤y by omega)
   have a2:l / 2 ^ (64 - s) < 2 ^ s:=by
    rw[Nat.div_lt_iff_lt_mul (Nat.pow_pos (by omega)),← Nat.pow_add,show s+(64 - s)=64 by omega];exact hl
   rw[Nat.succ_mul] at a1;omega
  have hlo:l / 2 ^ (64 - s) < 2 ^ s:=by
   rw[Nat.div_lt_iff_lt_mul (Nat.pow_pos (by omega)),← Nat.pow_add,show s+(64 - s)=64 by omega];exact hl
  have hN:(h*18446744073709551616+l)*2 ^ s=(h*2 ^ s+l / 2 ^ (64 - s))*18446744073709551616+l*2 ^ s % 18446744073709551616:=by
   have k1:(18446744073709551616:Nat)=2 ^ (64 - s)*2 ^ s:=by rw[← Nat.pow_add,show 64 - s+s=64 by omega]
   have k2:=Nat.div_add_mod l (2 ^ (64 - s))
   have k3:l*2 ^ s % 18446744073709551616=(l % 2 ^ (64 - s))*2 ^ s:=by rw[k1,Nat.mul_mod_mul_right]
   rw[k3,Nat.add_mul,Nat.add_mul,Nat.mul_right_comm,Nat.add_assoc]
   congr 1
   conv=>lhs;rw[← k2]
   rw[Nat.add_mul]
   congr 1
   rw[k1]
   rw[Nat.mul_comm (2 ^ (64 - s)) (l / 2 ^ (64 - s)),Nat.mul_assoc]
  have hq:(h*18446744073709551616+l) / y=(h*18446744073709551616+l)*2 ^ s / (y*2 ^ s):=by rw[Nat.mul_div_mul_right _ _ hs0]
  rw[hq,hN]
  simp only[w1,w2,yy4,m1,m2,c2,z5z,← Int.natCast_mul,zagv,zacd]
  rw[Nat.mod_eq_of_lt s3,Nat.mod_eq_of_lt (a:=h*2 ^ s) (Nat.lt_of_le_of_lt (Nat.le_add_right _ _) (Nat.lt_trans hle s3))]
  rw[zat1 hlo (Nat.lt_trans hle s3)]
  generalize y*2 ^ s=v at *
  generalize h*2 ^ s+l / 2 ^ (64 - s)=u at *
  generalize hz:l*2 ^ s % 18446744073709551616=z at *
  have hz':z < 18446744073709551616:=by rw[← hz];exact Nat.mod_lt _ (by omega)
  rw[show (2:Nat) ^ 32=4294967296 by decide]
  have hv:v=v / 4294967296*4294967296+v % 4294967296:=by omega
  have hv1:2147483648≤v / 4294967296:=by omega
  have hv2:v / 4294967296 < 4294967296:=by omega
  have hv3:v % 4294967296 < 4294967296:=by omega
  generalize hy1:v / 4294967296=y1 at *
  generalize hy0:v % 4294967296=y0 at *
  have hz1:z / 4294967296 < 4294967296:=by omega
  have hz0:z % 4294967296 < 4294967296:=by omega
  have hzz:z=z / 4294967296*4294967296+z % 4294967296:=by omega
  generalize z / 4294967296=z1 at *
  generalize z % 4294967296=z0 at *
  have A:=z74 (y1:=y1) (y0:=y0) (u:=u) (d:=z1) hv1 hv2 hv3 hz1 (by omega)
  rw[← hv] at A
  have hqq:=Nat.div_mul_le_self u y1
  iterate 6 rw[Tr.rg (by omega)]
  rw[Tr.rg (by omega)]
  rw[Nat.mod_eq_of_lt (a:=y0) (by omega),Nat.mod_eq_of_lt (a:=u) (by omega),Nat.mod_eq_of_lt (a:=z0) (by omega),z9i (x:=((u:Nat):Int)) (by omega)]
  rw[show ((u:Nat):Int) / ((y1:Nat):Int)=((u / y1:Nat):Int) from (Int.natCast_ediv ..).symm]
  have wq:u64.wrap (((u / y1:Nat)):Int)=((u / y1:Nat):Int):=zld (by have:=Nat.div_le_self u y1;omega)
  rw[wq,← Int.natCast_mul,zld (n:=u / y1*y1) (by omega),show ((u:Nat):Int) - ((u / y1*y1:Nat):Int)=((u - u / y1*y1:Nat):Int) by omega,zld (n:=u - u / y1*y1) (by omega)]
  rw[Tr.rb (zao7 _ _ _ (Nat.le_refl _) A)]
  simp only[]
  rw[Tr.rg (by omega)]
  have ht:=A.small
  have T1:=A.t1;have T2:=A.t2
  rw[← hv] at T1 T2
  obtain ⟨q1,hq1⟩:∃ q1,q1=(u*4294967296+z1) / v:=⟨_,rfl⟩
  rw[← hq1] at ht T1 T2 ⊢
  have hr1:u64.wrap (u64.wrap (u64.wrap ((u:Int)*4294967296)+(z1:Int)) - u64.wrap ((q1:Int)*(v:Int)))=((u*4294967296+z1 - q1*v:Nat):Int):=by
   rw[Nat.succ_mul] at T2
   rw[← Int.natCast_mul,zbh,zbh,zbh,zbh]
   generalize q1*v=k at T1 T2 ⊢
   omega
  have hr2:u*4294967296+z1 - q1*v < v:=by rw[Nat.succ_mul] at T2;omega
  have hr3:u*4294967296+z1=q1*v+(u*4294967296+z1 - q1*v):=by omega
  rw[hr1]
  obtain ⟨u2,hu2⟩:∃ u2,u2=u*4294967296+z1 - q1*v:=⟨_,rfl⟩
  rw[← hu2] at hr2 hr3 ⊢
  have A2:=z74 (y1:=y1) (y0:=y0) (u:=u2) (d:=z0) hv1 hv2 hv3 hz0 (by omega)
  rw[← hv] at A2
  have hqq2:=Nat.div_mul_le_self u2 y1
  rw[z9i (x:=((u2:Nat):Int)) (by omega),show ((u2:Nat):Int) / ((y1:Nat):Int)=((u2 / y1:Nat):Int) from (Int.natCast_ediv ..).symm]
  have wq2:u64.wrap (((u2 / y1:Nat)):Int)=((u2 / y1:Nat):Int):=zld (by have:=Nat.div_le_self u2 y1;omega)
  rw[wq2,← Int.natCast_mul,zld (n:=u2 / y1*y1) (by omega),show ((u2:Nat):Int) - ((u2 / y1*y1:Nat):Int)=((u2 - u2 / y1*y1:Nat):Int) by omega,zld (n:=u2 - u2 / y1*y1) (by omega)]
  rw[Tr.rb (zao8 _ _ _ (Nat.le_refl _) A2)]
  simp only[]
  have ht2:=A2.small
  have T3:=A2.t1;have T4:=A2.t2
  rw[← hv] at T3 T4
  obtain ⟨q0,hq0⟩:∃ q0,q0=(u2*4294967296+z0) / v:=⟨_,rfl⟩
  rw[← hq0] at ht2 T3 T4 ⊢
  have hfin:(u*18446744073709551616+z) / v=q1*4294967296+q0:=zagw hr3 hzz T3 T4
  have hval:u64.wrap (u64.wrap ((q1:Int)*4294967296)+(q0:Int))=((q1*4294967296+q0:Nat):Int):=by rw[zbh,zbh];omega
  rw[Tr.rg (by omega),Tr.rl,hval,hfin]
  exact ⟨_,rfl⟩
def zkc (a b c:Int):Int×Int:=if a < 0∨b < 0∨c < 1 then (0,2) else if 1125899906842624 < a*b / c then (0,2) else (a*b / c,0)
theorem z1n {a b c:Int} (ha:a≤9223372036854775807) (hb:b≤9223372036854775807) (hc:c≤9223372036854775807):zz a b c=some (zkc a b c):=by
 rw[zz,zou]
 unfold zkc
 by_cases h:a < 0∨b < 0∨c < 1
 ·rw[if_pos h,Tr.rt (by simpa[or_assoc] using h),Tr.rl]
 ·rw[if_neg h,Tr.rf (by rw[Bool.eq_false_iff];intro k;apply h;simpa[or_assoc] using k)]
  obtain ⟨x,rfl⟩:=Int.eq_ofNat_of_zero_le (show 0≤a by omega)
  obtain ⟨y,rfl⟩:=Int.eq_ofNat_of_zero_le (show 0≤b by omega)
  obtain ⟨z,rfl⟩:=Int.eq_ofNat_of_zero_le (show 0≤c by omega)
  rw[zld (by omega),zld (by omega),zld (n:=z) (by omega),Tr.rb (zaj4 (by omega) (by omega)),← Int.natCast_mul,← Int.natCast_ediv]
  simp only[]
  obtain ⟨p,hp⟩:∃ p,p=x*y:=⟨_,rfl⟩
  rw[← hp]
  have e1:=Nat.div_add_mod p 18446744073709551616
  by_cases h1:p / 18446744073709551616≥z
  ·rw[Tr.rt (by simp;omega),Tr.rl,if_pos]
   have:1125899906842625≤p / z:=by
    rw[Nat.le_div_iff_mul_le (by omega)]
    omega
   omega
  ·obtain ⟨r,e⟩:=zaj8 (h:=p / 18446744073709551616) (l:=p % 18446744073709551616) (y:=z) (by omega) (Nat.mod_lt _ (by omega)) (by omega)
   rw[Nat.mul_comm,e1] at e
   rw[Tr.rf (by simp;omega),Tr.rb e]
   simp only[]
   obtain ⟨w,hw⟩:∃ w,w=p / z:=⟨_,rfl⟩
   rw[← hw]
   by_cases h2:1125899906842624 < w
   ·rw[Tr.rt (by simp;omega),Tr.rl,if_pos (by omega)]
   ·rw[Tr.rf (by simp;omega),Tr.rl,if_neg (by omega),zj (by omega) (by omega)]
theorem zyb (n:Int):z7 n=some (decide (0≤n∧n≤1125899906842624)):=by
 rw[z7,zx0,Tr.rl,Bool.decide_and]
theorem zagx {n f:Int} (hn:0≤n) (hn':n≤1125899906842624) (hf:0≤f) (hf':f≤1000):zkc n f 1000=(n*f / 1000,0)∧0≤n*f∧n*f≤1000*n:=by
 have h1:0≤n*f:=Int.mul_nonneg hn hf
 have h2:n*f≤n*1000:=Int.mul_le_mul_of_nonneg_left hf' hn
 unfold zkc
 rw[if_neg (by omega),if_neg (by omega)]
 exact ⟨rfl,h1,by omega⟩
def ztb (n f:Int):Int×Int:=if n < 0∨1125899906842624 < n∨f < 0∨1000 < f then (0,2) else (n*f / 1000,0)
theorem zagy {n f:Int}:zmg n f=some (ztb n f):=by
 rw[zmg,zsf,Tr.rb (zyb n)]
 unfold ztb
 by_cases h:n < 0∨1125899906842624 < n∨f < 0∨1000 < f
 ·rw[if_pos h,Tr.rt (by simp;omega),Tr.rl]
 ·rw[if_neg h,Tr.rf (by simp;omega),Tr.rb (z1n (by omega) (by omega) (by omega)),Tr.rl,(zagx (by omega) (by omega) (by omega) (by omega)).1]
theorem zad1 {α:Type} {l:List α} {k:Nat} (h:k < l.length) (d:α):l.drop k=l.getD k d::l.drop (k+1):=by
 rw[List.drop_eq_getElem_cons h,yy0,yy3 h];rfl
def totB (b:Bank):Int:=b.Free.x0+b.Free.x1+b.Free.x2+b.Free.x3+b.Bonded+b.Waiting+b.Burnt
def okN (x:Int):Prop:=0≤x∧x≤400000
instance (x:Int):Decidable (okN x):=inferInstanceAs (Decidable (_∧_))
theorem zagz {x:Int} (h:okN x):(decide (x < 0)||decide (x > 400000))=false:=by unfold okN at h;simp;omega
theorem zaj9 {x:Int} (h:¬ okN x):(decide (x < 0)||decide (x > 400000))=true:=by unfold okN at h;simp;omega
def zho (b:Bank):Prop:=okN b.Free.x0∧okN b.Free.x1∧okN b.Free.x2∧okN b.Free.x3∧okN b.Bonded∧okN b.Waiting∧okN b.Burnt∧totB b=400000
instance (b:Bank):Decidable (zho b):=inferInstanceAs (Decidable (_∧_))
def plA (b:Bank):A7 Int:=⟨b.Free.x0,b.Free.x1,b.Free.x2,b.Free.x3,b.Bonded,b.Waiting,b.Burnt⟩
def bkA (a:A7 Int):Bank:=⟨⟨a.x0,a.x1,a.x2,a.x3⟩,a.x4,a.x5,a.x6⟩
theorem zad2 (b:Bank):zvc b=some (i64.wrap (totB b)):=by
 have key:∀ x:Int,zow x b.Free 0=some (i64.wrap (i64.wrap (i64.wrap (i64.wrap (x+b.Free.x0)+b.Free.x1)+b.Free.x2)+b.Free.x3)):=by
  intro x
  rw[zow]
  refine (zhn (s':=(i64.wrap (x+b.Free.x0),b.Free,1)) ?_).trans ((zhn (s':=(i64.wrap (i64.wrap (x+b.Free.x0)+b.Free.x1),b.Free,2)) ?_).trans ((zhn (s':=(i64.wrap (i64.wrap (i64.wrap (x+b.Free.x0)+b.Free.x1)+b.Free.x2),b.Free,3)) ?_).trans ((zhn (s':=(i64.wrap (i64.wrap (i64.wrap (i64.wrap (x+b.Free.x0)+b.Free.x1)+b.Free.x2)+b.Free.x3),b.Free,4)) ?_).trans (zle ?_))))
  ·simp only[ze7];rw[Tr.rt (by rfl),Tr.rg (by omega),Tr.rl];rfl
  ·simp only[ze7];rw[Tr.rt (by rfl),Tr.rg (by omega),Tr.rl];rfl
  ·simp only[ze7];rw[Tr.rt (by rfl),Tr.rg (by omega),Tr.rl];rfl
  ·simp only[ze7];rw[Tr.rt (by rfl),Tr.rg (by omega),Tr.rl];rfl
  ·simp only[ze7];rw[Tr.rf (by rfl),Tr.rl]
 rw[zvc,zx2,Tr.rb (key _),Tr.rl]
 congr 1
 simp only[IntKind.wrap_i64,totB]
 omega
theorem zkd (b:Bank):zey b=some (decide (zho b)):=by
 rw[zey,zvd]
 obtain ⟨l,hl⟩:∃ l,l=[b.Free.x0,b.Free.x1,b.Free.x2,b.Free.x3]++[b.Bonded,b.Waiting,b.Burnt]:=⟨_,rfl⟩
 have hlen:l.length=7:=by rw[hl];rfl
 rw[Tr.rg (by show (4+3)*8≤_;omega),Tr.rg (by show 0 < 3;omega),← hl]
 obtain ⟨r,h1,h2⟩:=zgh (F:=fun s:Int×Int×Bank×(List Int)=>(zha s.1 s.2.1 s.2.2.1 s.2.2.2).run) l.length
  (fun i (_:Unit)=>((l.length:Int),(i:Int),b,l)) (fun i _=>True) (fun i _ r=>match r with | .inl x=>x=false∧¬ (∀ y,y∈l.drop i→okN y) | .inr x=>x=b∧∀ y,y∈l.drop i→okN y) (by
   intro t _
   refine ⟨.inr b,?_,rfl,?_⟩
   ·simp only[zha];rw[Tr.rf (by simp),Tr.rl]
   ·rw[List.drop_length];intro y hy;cases hy) (by
   intro i t hi _
   have sa:=zad1 (l:=l) (k:=i) hi 0
   simp only[zha,yy4]
   rw[Tr.rt (by simpa using hi),Tr.rg ⟨by omega,by rw[znz];omega⟩,sa]
   by_cases hx:okN (l.getD i 0)
   ·refine .inl ⟨(),?_,trivial,?_⟩
    ·rw[Tr.rf (zagz hx),Tr.rl,zv (by omega)]
    ·intro r hr
     cases r with
     | inl y=>exact ⟨hr.1,fun h=>hr.2 fun z hz=>h z (List.mem_cons_of_mem _ hz)⟩
     | inr y=>exact ⟨hr.1,fun z hz=>by rcases List.mem_cons.1 hz with rfl | hz;exact hx;exact hr.2 z hz⟩
   ·refine .inr ⟨.inl false,?_,rfl,fun h=>hx (h _ (List.mem_cons_self ..))⟩
    rw[Tr.rt (zaj9 hx),Tr.rl]) 0 () (by omega) trivial
 have h1:zsg l.length 0 b l=some r:=h1
 have hall:(∀ y,y∈l.drop 0→okN y)↔(okN b.Free.x0∧okN b.Free.x1∧okN b.Free.x2∧okN b.Free.x3∧okN b.Bonded∧okN b.Waiting∧okN b.Burnt):=by
  rw[hl];simp
 cases r with
 | inl x =>
  rw[Tr.ri h1,Tr.rl,h2.1]
  have h3:=h2.2
  rw[hall] at h3
  rw[decide_eq_false]
  rintro ⟨a0,a1,a2,a3,a4,a5,a6,_⟩
  exact h3 ⟨a0,a1,a2,a3,a4,a5,a6⟩
 | inr x =>
  rw[Tr.rj h1,h2.1,Tr.rb (zad2 b),Tr.rl]
  have h3:=h2.2
  rw[hall] at h3
  obtain ⟨a0,a1,a2,a3,a4,a5,a6⟩:=h3
  have hw:i64.wrap (totB b)=totB b:=by
   unfold okN at a0 a1 a2 a3 a4 a5 a6
   unfold totB
   exact zj (by omega) (by omega)
  rw[hw]
  congr 1
  rw[Bool.eq_iff_iff,beq_iff_eq,decide_eq_true_iff]
  exact ⟨fun h=>⟨a0,a1,a2,a3,a4,a5,a6,h⟩,fun h=>h.2.2.2.2.2.2.2⟩
def zjg (b:Bank) (f t n:Int):Bank:=bkA (((plA b).set f ((plA b).get f - n)).set t ((((plA b).set f ((plA b).get f - n)).get t)+n))
def zb3 (b:Bank) (f t n:Int):Bank×Int :=
 if ¬ (zho b∧0≤n∧n≤1125899906842624) then (b,2) else if (plA b).get f < n then (b,7) else (zjg b f t n,0)
theorem zace {b:Bank} (h:zho b) (i:Int):okN ((plA b).get i):=by
 obtain ⟨a0,a1,a2,a3,a4,a5,a6,_⟩:=h
 unfold A7.get plA
 repeat' split
 all_goals assumption
theorem z50 {b:Bank} {d:Int} (h:0≤d∧d < 4):zhb b d=some (d,b,d):=by rw[zhb,zqt,Tr.rg h,Tr.rl]
theorem ztc (b:Bank):zd6 b=some b:=by rw[zd6,zqw,Tr.rl]
theorem zp7 (b:Bank):zc7 b=some b:=by rw[zc7,zoy,Tr.rl]
theorem zacf (b:Bank):zmi b=some b:=by rw[zmi,zsh,Tr.rl]
theorem z51 {b:Bank} {d:Int} (h:0≤d∧d < 4):b.Free.get d=(plA b).get d:=by
 unfold A4.get A7.get plA
 repeat' split
 all_goals first | rfl | omega
theorem zaka {b:Bank} {d n:Int} (hd:0≤d∧d < 4):zhc b n d=some ((zb3 b d 4 n).1,(zb3 b d 4 n).2,d):=by
 rw[zhc,zqx,Tr.rb (zkd b)]
 simp only[zyb,Option.isSome_some,yy2]
 rw[Tr.rg (by simp)]
 unfold zb3
 by_cases hg:zho b∧0≤n∧n≤1125899906842624
 ·rw[if_neg (by simpa using hg),Tr.rf (by simpa using hg),Tr.rb (z50 hd)]
  simp only[]
  rw[z51 hd]
  have h1:=zace hg.1 d
  have h2:=zace hg.1 4
  unfold okN at h1 h2
  by_cases hl:(plA b).get d < n
  ·rw[if_pos hl,Tr.rt (by simpa using hl),Tr.rl]
  ·rw[if_neg hl,Tr.rf (by simpa using hl),Tr.rb (z50 hd)]
   simp only[]
   rw[z51 hd,zj (x:=(plA b).get d - n) (by omega) (by omega),Tr.rb (ztc _),Tr.rl]
   simp only[]
   rw[zj (x:=b.Bonded+n) (by have:(plA b).get 4=b.Bonded:=rfl;omega) (by have:(plA b).get 4=b.Bonded:=rfl;omega)]
   obtain rfl | rfl | rfl | rfl:d=0∨d=1∨d=2∨d=3:=by omega
   all_goals simp[zjg,bkA,plA,A7.get,A7.set,A4.set]
 ·rw[if_pos hg,Tr.rt (by rw[← Bool.not_eq_false];intro k;apply hg;simpa using k),Tr.rl]
theorem zakb {b:Bank} {d n:Int} (hd:0≤d∧d < 4):zhd b n d=some ((zb3 b 5 d n).1,(zb3 b 5 d n).2,d):=by
 rw[zhd,zqz,Tr.rb (zkd b)]
 simp only[zyb,Option.isSome_some,yy2]
 rw[Tr.rg (by simp)]
 unfold zb3
 by_cases hg:zho b∧0≤n∧n≤1125899906842624
 ·have h1:=zace hg.1 d
  have h2:okN b.Waiting:=hg.1.2.2.2.2.2.1
  have h5:(plA b).get 5=b.Waiting:=rfl
  unfold okN at h1 h2
  rw[if_neg (by simpa using hg),Tr.rf (by simpa using hg),Tr.rb (zp7 _),h5]
  by_cases hl:b.Waiting < n
  ·rw[if_pos hl,Tr.rt (by simpa using hl),Tr.rl]
  ·rw[if_neg hl,Tr.rf (by simpa using hl),Tr.rb (zp7 _),Tr.rb (z50 hd)]
   simp only[]
   rw[Tr.rl,z51 hd,zj (x:=b.Waiting - n) (by omega) (by omega),zj (x:=(plA b).get d+n) (by omega) (by omega)]
   obtain rfl | rfl | rfl | rfl:d=0∨d=1∨d=2∨d=3:=by omega
   all_goals simp[zjg,bkA,plA,A7.get,A7.set,A4.set]
 ·rw[if_pos hg,Tr.rt (by rw[← Bool.not_eq_false];intro k;apply hg;simpa using k),Tr.rl]
theorem zakc {b:Bank} {n:Int}:zoz b n=some (zb3 b 4 5 n):=by
 rw[zoz,zqy,Tr.rb (zkd b)]
 simp only[zyb,Option.isSome_some,yy2]
 rw[Tr.rg (by simp)]
 unfold zb3
 by_cases hg:zho b∧0≤n∧n≤1125899906842624
 ·have h1:okN b.Bonded:=hg.1.2.2.2.2.1
  have h2:okN b.Waiting:=hg.1.2.2.2.2.2.1
  have h5:(plA b).get 4=b.Bonded:=rfl
  unfold okN at h1 h2
  rw[if_neg (by simpa using hg),Tr.rf (by simpa using hg),Tr.rb (ztc _),h5]
  by_cases hl:b.Bonded < n
  ·rw[if_pos hl,Tr.rt (by simpa using hl),Tr.rl]
  ·rw[if_neg hl,Tr.rf (by simpa using hl),Tr.rb (ztc _),Tr.rb (zp7 _),Tr.rl]
   simp only[]
   rw[zj (x:=b.Bonded - n) (by omega) (by omega),zj (x:=b.Waiting+n) (by omega) (by omega)]
   simp[zjg,bkA,plA,A7.get,A7.set,A4.set]
 ·rw[if_pos hg,Tr.rt (by rw[← Bool.not_eq_false];intro k;apply hg;simpa using k),Tr.rl]
theorem zakd {b:Bank} {n:Int}:zo0 b n=some (zb3 b 4 6 n):=by
 rw[zo0,zq0,Tr.rb (zkd b)]
 simp only[zyb,Option.isSome_some,yy2]
 rw[Tr.rg (by simp)]
 unfold zb3
 by_cases hg:zho b∧0≤n∧n≤1125899906842624
 ·have h1:okN b.Bonded:=hg.1.2.2.2.2.1
  have h2:okN b.Burnt:=hg.1.2.2.2.2.2.2.1
  have h5:(plA b).get 4=b.Bonded:=rfl
  unfold okN at h1 h2
  rw[if_neg (by simpa using hg),Tr.rf (by simpa using hg),Tr.rb (ztc _),h5]
  by_cases hl:b.Bonded < n
  ·rw[if_pos hl,Tr.rt (by simpa using hl),Tr.rl]
  ·rw[if_neg hl,Tr.rf (by simpa using hl),Tr.rb (ztc _),Tr.rb (zacf _),Tr.rl]
   simp only[]
   rw[zj (x:=b.Bonded - n) (by omega) (by omega),zj (x:=b.Burnt+n) (by omega) (by omega)]
   simp[zjg,bkA,plA,A7.get,A7.set,A4.set]
 ·rw[if_pos hg,Tr.rt (by rw[← Bool.not_eq_false];intro k;apply hg;simpa using k),Tr.rl]
theorem zake {b:Bank} {n:Int}:zo1 b n=some (zb3 b 5 6 n):=by
 rw[zo1,zq1,Tr.rb (zkd b)]
 simp only[zyb,Option.isSome_some,yy2]
 rw[Tr.rg (by simp)]
 unfold zb3
 by_cases hg:zho b∧0≤n∧n≤1125899906842624
 ·have h1:okN b.Waiting:=hg.1.2.2.2.2.2.1
  have h2:okN b.Burnt:=hg.1.2.2.2.2.2.2.1
  have h5:(plA b).get 5=b.Waiting:=rfl
  unfold okN at h1 h2
  rw[if_neg (by simpa using hg),Tr.rf (by simpa using hg),Tr.rb (zp7 _),h5]
  by_cases hl:b.Waiting < n
  ·rw[if_pos hl,Tr.rt (by simpa using hl),Tr.rl]
  ·rw[if_neg hl,Tr.rf (by simpa using hl),Tr.rb (zp7 _),Tr.rb (zacf _),Tr.rl]
   simp only[]
   rw[zj (x:=b.Waiting - n) (by omega) (by omega),zj (x:=b.Burnt+n) (by omega) (by omega)]
   simp[zjg,bkA,plA,A7.get,A7.set,A4.set]
 ·rw[if_pos hg,Tr.rt (by rw[← Bool.not_eq_false];intro k;apply hg;simpa using k),Tr.rl]
def zp8 (b:Bank) (d n:Int):Bank×Int:=if d < 0∨3 < d then (b,4) else zb3 b d 4 n
def z52 (b:Bank) (d n:Int):Bank×Int:=if d < 0∨3 < d then (b,4) else zb3 b 5 d n
def zaaj (b:Bank) (x y:Int):Bank×Int :=
 if (zb3 b 4 6 x).2≠0 then (b,(zb3 b 4 6 x).2) else if (zb3 (zb3 b 4 6 x).1 5 6 y).2≠0 then (b,(zb3 (zb3 b 4 6 x).1 5 6 y).2) else ((zb3 (zb3 b 4 6 x).1 5 6 y).1,0)
theorem zag0 {b:Bank} {d n:Int}:zoe b d n=some (zp8 b d n):=by
 rw[zoe,zvf,Tr.rb (v:=decide (0≤d∧d < 4)) (by rw[zgn,zhp,Tr.rl,Bool.decide_and])]
 unfold zp8
 by_cases hd:0≤d∧d < 4
 ·have e1:zbv d=some d:=by rw[zbv,zqv,Tr.rl]
  rw[if_neg (by omega),Tr.rf (by simpa using hd)]
  simp only[e1,zaka hd,Option.isSome_some,yy2]
  rw[Tr.rg (by trivial),Tr.rg (by trivial),Tr.rl]
 ·rw[if_pos (by omega),Tr.rt (by simp;omega),Tr.rl]
theorem zao9 {b:Bank} {d n:Int}:zvg b d n=some (z52 b d n):=by
 rw[zvg,zx3,Tr.rb (v:=decide (0≤d∧d < 4)) (by rw[zgn,zhp,Tr.rl,Bool.decide_and])]
 unfold z52
 by_cases hd:0≤d∧d < 4
 ·have e1:zbv d=some d:=by rw[zbv,zqv,Tr.rl]
  rw[if_neg (by omega),Tr.rf (by simpa using hd)]
  simp only[e1,zakb hd,Option.isSome_some,yy2]
  rw[Tr.rg (by trivial),Tr.rg (by trivial),Tr.rl]
 ·rw[if_pos (by omega),Tr.rt (by simp;omega),Tr.rl]
theorem z75 {b:Bank} {n:Int}:zhe b n=some (zb3 b 4 5 n):=by
 rw[zhe,zq2,Tr.rb zakc,Tr.rl]
theorem zapa {b:Bank} {x y:Int}:zsj b x y=some (zaaj b x y):=by
 rw[zsj,zvh,Tr.rb zakd]
 unfold zaaj
 by_cases h:(zb3 b 4 6 x).2=0
 ·rw[if_neg (by simpa using h),Tr.rf (by simpa using h),Tr.rb zake]
  by_cases h2:(zb3 (zb3 b 4 6 x).1 5 6 y).2=0
  ·rw[if_neg (by simpa using h2),Tr.rf (by simpa using h2),Tr.rl]
  ·rw[if_pos h2,Tr.rt (by simpa using h2),Tr.rl]
 ·rw[if_pos h,Tr.rt (by simpa using h),Tr.rl]
def newB:Bank:=⟨⟨100000,100000,100000,100000⟩,0,0,0⟩
theorem zad3:zvb=some newB:=by
 have key:zov 0 (⟨(⟨0,0,0,0⟩:(A4 Int)),0,0,0⟩:Bank) (⟨(⟨0,0,0,0⟩:(A4 Int)),0,0,0⟩:Bank)=some (⟨⟨0,0,0,0⟩,0,0,0⟩,newB):=by
  rw[zov]
  refine (zhn (s':=(1,⟨⟨0,0,0,0⟩,0,0,0⟩,⟨⟨100000,0,0,0⟩,0,0,0⟩)) ?_).trans ((zhn (s':=(2,⟨⟨0,0,0,0⟩,0,0,0⟩,⟨⟨100000,100000,0,0⟩,0,0,0⟩)) ?_).trans ((zhn (s':=(3,⟨⟨0,0,0,0⟩,0,0,0⟩,⟨⟨100000,100000,100000,0⟩,0,0,0⟩)) ?_).trans ((zhn (s':=(4,⟨⟨0,0,0,0⟩,0,0,0⟩,newB)) ?_).trans (zle ?_))))
  ·simp only[ze6];rw[Tr.rt (by rfl),Tr.rg (by omega),Tr.rl];rfl
  ·simp only[ze6];rw[Tr.rt (by rfl),Tr.rg (by omega),Tr.rl];rfl
  ·simp only[ze6];rw[Tr.rt (by rfl),Tr.rg (by omega),Tr.rl];rfl
  ·simp only[ze6];rw[Tr.rt (by rfl),Tr.rg (by omega),Tr.rl];rfl
  ·simp only[ze6];rw[Tr.rf (by rfl),Tr.rl]
 rw[zvb,zx1,Tr.rb key,Tr.rl]
theorem zag1 {b:Bank} {f t n:Int} (h:(zb3 b f t n).2≠0):(zb3 b f t n).1=b:=by
 unfold zb3 at h ⊢
 split
 ·rfl
 ·split
  ·rfl
  ·rename_i h1 h2
   rw[if_neg h1,if_neg h2] at h
   exact absurd rfl h
theorem z53 {b:Bank} {f t n:Int} (h:(zb3 b f t n).2=0):zho b∧0≤n∧n≤1125899906842624∧n≤(plA b).get f∧zb3 b f t n=(zjg b f t n,0):=by
 unfold zb3 at h ⊢
 by_cases h1:zho b∧0≤n∧n≤1125899906842624
 ·rw[if_neg (by simpa using h1)] at h ⊢
  by_cases h2:(plA b).get f < n
  ·rw[if_pos h2] at h;cases h
  ·rw[if_neg h2]
   exact ⟨h1.1,h1.2.1,h1.2.2,by omega,rfl⟩
 ·rw[if_pos h1] at h;cases h
def road (f t:Int):Prop:=((f=0∨f=1∨f=2∨f=3)∧t=4)∨(f=4∧t=5)∨(f=5∧(t=0∨t=1∨t=2∨t=3))∨(f=4∧t=6)∨(f=5∧t=6)
theorem zn0 {b:Bank} {f t n:Int} (hr:road f t) (hg:zho b) (h0:0≤n) (h1:n≤(plA b).get f):zho (zjg b f t n)∧b.Burnt≤(zjg b f t n).Burnt:=by
 obtain ⟨a0,a1,a2,a3,a4,a5,a6,a7⟩:=hg
 unfold okN at a0 a1 a2 a3 a4 a5 a6
 unfold totB at a7
 unfold road at hr
 rcases hr with ⟨rfl | rfl | rfl | rfl,rfl⟩ | ⟨rfl,rfl⟩ | ⟨rfl,rfl | rfl | rfl | rfl⟩ | ⟨rfl,rfl⟩ | ⟨rfl,rfl⟩
 all_goals
  simp[plA,A7.get] at h1
  simp[zho,okN,totB,zjg,bkA,plA,A7.get,A7.set]
  omega
def kept (b:Bank) (v:Bank×Int):Prop:=(v.2≠0∧v.1=b)∨(v.2=0∧zho b∧zho v.1∧b.Burnt≤v.1.Burnt)
theorem zag2 {b:Bank} {f t n:Int} (hr:road f t):kept b (zb3 b f t n):=by
 by_cases h:(zb3 b f t n).2=0
 ·obtain ⟨h1,h2,h3,h4,h5⟩:=z53 h
  obtain ⟨k1,k2⟩:=zn0 hr h1 h2 h4
  rw[h5]
  exact .inr ⟨rfl,h1,k1,k2⟩
 ·exact .inl ⟨h,zag1 h⟩
theorem zag3 {b:Bank} {d n:Int}:kept b (zp8 b d n):=by
 unfold zp8
 split
 ·exact .inl ⟨by simp,rfl⟩
 ·exact zag2 (.inl ⟨by omega,rfl⟩)
theorem z54 {b:Bank} {f t n:Int} (h1:zho b) (h2:0≤n) (h3:n≤1125899906842624) (h4:n≤(plA b).get f):zb3 b f t n=(zjg b f t n,0):=by
 unfold zb3
 rw[if_neg (by simp;exact ⟨h1,h2,h3⟩),if_neg (by omega)]
theorem z3x {σ τ β γ:Type} {F:σ→Option (σ⊕(β⊕γ))} (n:Nat) (mk:Nat→τ→σ) (g:τ→Nat→τ) (p:Nat→Prop) (bad:β) (out:τ→γ)
  (hend:∀ t,F (mk n t)=some (.inr (.inr (out t)))) (hok:∀ i t,i < n→p i→F (mk i t)=some (.inl (mk (i+1) (g t i))))
  (hbad:∀ i t,i < n→¬ p i→F (mk i t)=some (.inr (.inl bad))) (t:τ) :
  ((∀ i,i < n→p i)∧zdv F (mk 0 t)=some (.inr (out ((List.range n).foldl g t))))∨((¬ ∀ i,i < n→p i)∧zdv F (mk 0 t)=some (.inl bad)):=by
 obtain ⟨r,h1,h2⟩:=zgh (F:=F) n mk (fun _ _=>True)
  (fun i t r=>((∀ j,i≤j→j < n→p j)∧r=.inr (out (((List.range n).drop i).foldl g t)))∨((¬ ∀ j,i≤j→j < n→p j)∧r=.inl bad)) (by
   intro t _
   refine ⟨_,hend t,.inl ⟨fun j h1 h2=>by omega,?_⟩⟩
   rw[List.drop_eq_nil_of_le (by rw[List.length_range];omega)];rfl) (by
   intro i t hi _
   have hs:=za0 (l:=List.range n) (k:=i) (by rw[List.length_range];exact hi) 0
   rw[ztm hi] at hs
   by_cases hp:p i
   ·refine .inl ⟨g t i,hok i t hi hp,trivial,fun r hr=>?_⟩
    rcases hr with ⟨h1,h2⟩ | ⟨h1,h2⟩
    ·refine .inl ⟨fun j h3 h4=>?_,?_⟩
     ·by_cases he:j=i
      ·rw[he];exact hp
      ·exact h1 j (by omega) h4
     ·rw[h2,hs,List.foldl_cons]
    ·exact .inr ⟨fun h=>h1 fun j h3 h4=>h j (by omega) h4,h2⟩
   ·exact .inr ⟨_,hbad i t hi hp,.inr ⟨fun h=>hp (h i (Nat.le_refl _) hi),rfl⟩⟩) 0 t (Nat.zero_le _) trivial
 rcases h2 with ⟨h2,h3⟩ | ⟨h2,h3⟩
 ·exact .inl ⟨fun i hi=>h2 i (Nat.zero_le _) hi,by rw[h1,h3,List.drop_zero]⟩
 ·exact .inr ⟨fun h=>h2 fun j _ h4=>h j h4,by rw[h1,h3]⟩
theorem zbx (l:List Wait):Sl.len (.waits l)=l.length:=rfl
abbrev inA (n:Int):Prop:=0≤n∧n≤1125899906842624
abbrev shr (s:Stake) (d v:Int):Int:=A46.get s.Shares d v
def z25 (s:Stake) (v:Int):Int:=shr s 0 v+shr s 1 v+shr s 2 v+shr s 3 v
def okV (T S L:Int) (J D:Bool):Prop:=inA T∧inA S∧inA L∧¬ (S=0∧0 < T)∧¬ (D=true∧J=false)
instance (T S L:Int) (J D:Bool):Decidable (okV T S L J D):=inferInstanceAs (Decidable (_∧_))
def z55 (s:Stake) (v:Int):Prop :=
 okV (s.Validators.Tokens.get v) (s.Validators.Shares.get v) (s.Validators.Lost.get v) (s.Validators.Jailed.get v) (s.Validators.Dead.get v)∧(∀ d:Nat,d < 4→inA (shr s d v))∧z25 s v=s.Validators.Shares.get v
instance (s:Stake) (v:Int):Decidable (z55 s v):=inferInstanceAs (Decidable (_∧_))
def zad4 (next last:Int) (w:Wait):Prop:=last < w.Number∧w.Number < next∧0≤w.D∧w.D < 4∧0≤w.V∧w.V < 6∧inA w.Amount∧0≤w.Height∧0≤w.Due
instance (n l:Int) (w:Wait):Decidable (zad4 n l w):=inferInstanceAs (Decidable (_∧_))
def zf2 (next:Int):Int→List Wait→Prop
 | _,[]=>True
 | last,w::l=>zad4 next last w∧zf2 next w.Number l
def zat2 (next:Int):(last:Int)→(l:List Wait)→Decidable (zf2 next last l)
 | _,[]=>isTrue trivial
 | last,w::l=>@instDecidableAnd _ _ (inferInstanceAs (Decidable (zad4 next last w))) (zat2 next w.Number l)
instance (n p:Int) (l:List Wait):Decidable (zf2 n p l):=zat2 n p l
def zpl:List Wait→Int
 | []=>0
 | w::l=>w.Amount+zpl l
def sum6 (a:A6 Int):Int:=a.x0+a.x1+a.x2+a.x3+a.x4+a.x5
def GoodS (s:Stake):Prop:=zho s.Bank∧(1≤s.Next∧s.Next≤1125899906842624∧s.Waits.length≤60)∧(∀ v:Nat,v < 6→z55 s v)∧zf2 s.Next 0 s.Waits ∧
 sum6 s.Validators.Tokens=s.Bank.Bonded∧zpl s.Waits=s.Bank.Waiting∧sum6 s.Validators.Lost=s.Bank.Burnt
instance (s:Stake):Decidable (GoodS s):=inferInstanceAs (Decidable (_∧_))
def vsA (s:Stake):A6 zn:=⟨⟨s.Validators.Tokens.x0,s.Validators.Shares.x0,s.Validators.Lost.x0,s.Validators.Jailed.x0,s.Validators.Dead.x0⟩,⟨s.Validators.Tokens.x1,s.Validators.Shares.x1,s.Validators.Lost.x1,s.Validators.Jailed.x1,s.Validators.Dead.x1⟩,
 ⟨s.Validators.Tokens.x2,s.Validators.Shares.x2,s.Validators.Lost.x2,s.Validators.Jailed.x2,s.Validators.Dead.x2⟩,⟨s.Validators.Tokens.x3,s.Validators.Shares.x3,s.Validators.Lost.x3,s.Validators.Jailed.x3,s.Validators.Dead.x3⟩,
 ⟨s.Validators.Tokens.x4,s.Validators.Shares.x4,s.Validators.Lost.x4,s.Validators.Jailed.x4,s.Validators.Dead.x4⟩,⟨s.Validators.Tokens.x5,s.Validators.Shares.x5,s.Validators.Lost.x5,s.Validators.Jailed.x5,s.Validators.Dead.x5⟩⟩
theorem zapb (s:Stake):(⟨(vsA s).x0.Tokens,(vsA s).x1.Tokens,(vsA s).x2.Tokens,(vsA s).x3.Tokens,(vsA s).x4.Tokens,(vsA s).x5.Tokens⟩:A6 Int)=s.Validators.Tokens:=rfl
theorem zat3 (s:Stake):(⟨(vsA s).x0.Shares,(vsA s).x1.Shares,(vsA s).x2.Shares,(vsA s).x3.Shares,(vsA s).x4.Shares,(vsA s).x5.Shares⟩:A6 Int)=s.Validators.Shares:=rfl
theorem zat4 (s:Stake):(⟨(vsA s).x0.Lost,(vsA s).x1.Lost,(vsA s).x2.Lost,(vsA s).x3.Lost,(vsA s).x4.Lost,(vsA s).x5.Lost⟩:A6 Int)=s.Validators.Lost:=rfl
theorem zapc (s:Stake):(⟨(vsA s).x0.Jailed,(vsA s).x1.Jailed,(vsA s).x2.Jailed,(vsA s).x3.Jailed,(vsA s).x4.Jailed,(vsA s).x5.Jailed⟩:A6 Bool)=s.Validators.Jailed:=rfl
theorem zat5 (s:Stake):(⟨(vsA s).x0.Dead,(vsA s).x1.Dead,(vsA s).x2.Dead,(vsA s).x3.Dead,(vsA s).x4.Dead,(vsA s).x5.Dead⟩:A6 Bool)=s.Validators.Dead:=rfl
theorem zakf {s:Stake} {v:Int} (h:∀ d:Nat,d < 4→inA (shr s d v)):(List.range 4).foldl (fun t (d:Nat)=>i64.wrap (t+shr s d v)) 0=z25 s v:=by
 show i64.wrap (i64.wrap (i64.wrap (i64.wrap (0+shr s 0 v)+shr s 1 v)+shr s 2 v)+shr s 3 v)=_
 have h0:inA (shr s 0 v):=h 0 (by omega)
 have h1:inA (shr s 1 v):=h 1 (by omega)
 have h2:inA (shr s 2 v):=h 2 (by omega)
 have h3:inA (shr s 3 v):=h 3 (by omega)
 unfold z25
 simp only[IntKind.wrap_i64]
 omega
theorem zacg (s:Stake) {v:Nat} (hv:v < 6) (x0 x1 x2 x6:Int) (a:A6 zn) (x9:zn) :
  ((∀ d:Nat,d < 4→inA (shr s d v))∧zlk x0 x1 x2 v 0 a x6 0 s x9=some (.inr (x0,x1,x2,z25 s v,a,x6,s,x9))) ∨
  ((¬ ∀ d:Nat,d < 4→inA (shr s d v))∧zlk x0 x1 x2 v 0 a x6 0 s x9=some (.inl false)):=by
 have:=z3x (F:=fun s:Int×Int×Int×Int×Int×(A6 zn)×Int×Int×Stake×zn=>(zeo s.1 s.2.1 s.2.2.1 s.2.2.2.1 s.2.2.2.2.1 s.2.2.2.2.2.1 s.2.2.2.2.2.2.1 s.2.2.2.2.2.2.2.1 s.2.2.2.2.2.2.2.2.1 s.2.2.2.2.2.2.2.2.2).run) 4
  (fun i t=>(x0,x1,x2,(v:Int),t,a,x6,(i:Int),s,x9)) (fun t (d:Nat)=>i64.wrap (t+shr s d v)) (fun d=>inA (shr s d v)) false (fun t=>(x0,x1,x2,t,a,x6,s,x9)) (by
   intro t
   simp only[zeo];rw[Tr.rf (by rfl),Tr.rl]) (by
   intro i t hi hp
   simp only[zeo]
   rw[Tr.rt (by simp;omega),Tr.rg (by omega),Tr.rg (by omega),Tr.rb (zyb _),Tr.rf (by simpa using hp),Tr.rg (by omega),Tr.rg (by omega),Tr.rl,zv (by omega)]) (by
   intro i t hi hp
   simp only[zeo]
   rw[Tr.rt (by simp;omega),Tr.rg (by omega),Tr.rg (by omega),Tr.rb (zyb _),Tr.rt (by rw[Bool.not_eq_true',yy8];exact hp),Tr.rl]) 0
 rcases this with ⟨h1,h2⟩ | ⟨h1,h2⟩
 ·rw[zakf h1] at h2;exact .inl ⟨h1,h2⟩
 ·exact .inr ⟨h1,h2⟩
theorem zag4 (T S L:Int) (J D:Bool):(((((!(decide (0≤T∧T≤1125899906842624)))||(!(decide (0≤S∧S≤1125899906842624))))||(!(decide (0≤L∧L≤1125899906842624))))||((S==0)&&(decide (T > 0))))||(D&&(!J))) = !decide (okV T S L J D):=by
 rw[Bool.eq_iff_iff]
 unfold okV inA
 cases J<;>cases D<;>simp<;>omega
theorem zakg {f g:Nat→Int} (hf:∀ v:Nat,v < 6→inA (f v)) (hg:∀ v:Nat,v < 6→inA (g v)) :
  (List.range 6).foldl (fun (t:Int×Int) (v:Nat)=>(i64.wrap (t.1+f v),i64.wrap (t.2+g v))) (0,0)=(f 0+f 1+f 2+f 3+f 4+f 5,g 0+g 1+g 2+g 3+g 4+g 5):=by
 show (i64.wrap (i64.wrap (i64.wrap (i64.wrap (i64.wrap (i64.wrap (0+f 0)+f 1)+f 2)+f 3)+f 4)+f 5),i64.wrap (i64.wrap (i64.wrap (i64.wrap (i64.wrap (i64.wrap (0+g 0)+g 1)+g 2)+g 3)+g 4)+g 5))=_
 have e:∀ f:Nat→Int,(∀ v:Nat,v < 6→inA (f v))→i64.wrap (i64.wrap (i64.wrap (i64.wrap (i64.wrap (i64.wrap (0+f 0)+f 1)+f 2)+f 3)+f 4)+f 5)=f 0+f 1+f 2+f 3+f 4+f 5:=by
  intro f hf
  have h0:=hf 0 (by omega);have h1:=hf 1 (by omega);have h2:=hf 2 (by omega);have h3:=hf 3 (by omega);have h4:=hf 4 (by omega);have h5:=hf 5 (by omega)
  unfold inA at h0 h1 h2 h3 h4 h5
  rw[zj (x:=0+f 0) (by omega) (by omega),zj (x:=_+f 1) (by omega) (by omega),zj (x:=_+f 2) (by omega) (by omega),zj (x:=_+f 3) (by omega) (by omega),zj (x:=_+f 4) (by omega) (by omega),zj (x:=_+f 5) (by omega) (by omega)]
  omega
 rw[e f hf,e g hg]
theorem zakh (s:Stake) :
  ((∀ v:Nat,v < 6→z55 s v)∧zll 0 0 0 (vsA s) 0 s=some (.inr (sum6 s.Validators.Tokens,0,sum6 s.Validators.Lost,s)))∨((¬ ∀ v:Nat,v < 6→z55 s v)∧zll 0 0 0 (vsA s) 0 s=some (.inl false)):=by
 have:=z3x (F:=fun s:Int×Int×Int×(A6 zn)×Int×Stake=>(zep s.1 s.2.1 s.2.2.1 s.2.2.2.1 s.2.2.2.2.1 s.2.2.2.2.2).run) 6
  (fun i (t:Int×Int)=>(t.1,0,t.2,vsA s,(i:Int),s)) (fun t (v:Nat)=>(i64.wrap (t.1+s.Validators.Tokens.get v),i64.wrap (t.2+s.Validators.Lost.get v))) (fun v=>z55 s v) false (fun t=>(t.1,0,t.2,s)) (by
   intro t
   simp only[zep];rw[Tr.rf (by rfl),Tr.rl]) (by
   rintro i ⟨t1,t2⟩ hi ⟨hp1,hp2,hp3⟩
   simp only[zep]
   rw[zapb,zat3,zat4,zapc,zat5,Tr.rt (by simp;omega),Tr.rg (by omega),Tr.rb (zyb _)]
   simp only[zyb,Option.isSome_some,yy2]
   rw[Tr.rg (by simp),Tr.rg (by simp),Tr.rf (by rw[zag4];simpa using hp1)]
   rcases zacg s hi t1 0 t2 i (vsA s) (⟨s.Validators.Tokens.get i,s.Validators.Shares.get i,s.Validators.Lost.get i,s.Validators.Jailed.get i,s.Validators.Dead.get i⟩:zn) with ⟨k1,k2⟩ | ⟨k1,k2⟩
   ·rw[Tr.rj k2]
    simp only[]
    rw[Tr.rf (by simpa using hp3),Tr.rl,zv (by omega)]
   ·exact absurd hp2 k1) (by
   rintro i ⟨t1,t2⟩ hi hp
   simp only[zep]
   rw[zapb,zat3,zat4,zapc,zat5,Tr.rt (by simp;omega),Tr.rg (by omega),Tr.rb (zyb _)]
   simp only[zyb,Option.isSome_some,yy2]
   rw[Tr.rg (by simp),Tr.rg (by simp)]
   by_cases hp1:okV (s.Validators.Tokens.get i) (s.Validators.Shares.get i) (s.Validators.Lost.get i) (s.Validators.Jailed.get i) (s.Validators.Dead.get i)
   ·rw[Tr.rf (by rw[zag4];simpa using hp1)]
    rcases zacg s hi t1 0 t2 i (vsA s) (⟨s.Validators.Tokens.get i,s.Validators.Shares.get i,s.Validators.Lost.get i,s.Validators.Jailed.get i,s.Validators.Dead.get i⟩:zn) with ⟨k1,k2⟩ | ⟨k1,k2⟩
    ·rw[Tr.rj k2]
     simp only[]
     rw[Tr.rt (by simpa using fun h=>hp ⟨hp1,k1,h⟩),Tr.rl]
    ·rw[Tr.ri k2,Tr.rl]
   ·rw[Tr.rt (by rw[zag4];simpa using hp1),Tr.rl]) (0,0)
 rcases this with ⟨h1,h2⟩ | ⟨h1,h2⟩
 ·rw[zakg (f:=fun v=>s.Validators.Tokens.get v) (g:=fun v=>s.Validators.Lost.get v) (fun v hv=>(h1 v hv).1.1) (fun v hv=>(h1 v hv).1.2.2.1)] at h2
  exact .inl ⟨h1,h2⟩
 ·exact .inr ⟨h1,h2⟩
def zzm (l:List Wait) (i:Nat):Int:=if i=0 then 0 else (l.getD (i - 1) default).Number
theorem zad5 (l:List Wait) (i:Nat):zzm l (i+1)=(l.getD i default).Number:=by unfold zzm;rw[if_neg (by omega),Nat.add_sub_cancel]
theorem zaki {s:Stake} (hl:s.Waits.length≤60) (x0 x2:Int) :
  (zf2 s.Next 0 s.Waits∧zhq x0 0 x2 s.Waits s.Waits.length 0 s=some (.inr (x0,zpl s.Waits,x2,s)))∨(¬ zf2 s.Next 0 s.Waits∧zhq x0 0 x2 s.Waits s.Waits.length 0 s=some (.inl false)):=by
 obtain ⟨r,h1,h2⟩:=zgh (F:=fun s:Int×Int×Int×(List Wait)×Int×Int×Stake=>(zf8 s.1 s.2.1 s.2.2.1 s.2.2.2.1 s.2.2.2.2.1 s.2.2.2.2.2.1 s.2.2.2.2.2.2).run) s.Waits.length
  (fun i t=>(x0,t,x2,s.Waits,(s.Waits.length:Int),(i:Int),s)) (fun i t=>0≤t∧t≤i*1125899906842624∧(i=0∨1≤zzm s.Waits i))
  (fun i t r=>(zf2 s.Next (zzm s.Waits i) (s.Waits.drop i)∧r=.inr (x0,t+zpl (s.Waits.drop i),x2,s))∨(¬ zf2 s.Next (zzm s.Waits i) (s.Waits.drop i)∧r=.inl false)) (by
   intro t _
   refine ⟨.inr (x0,t,x2,s),?_,.inl ⟨?_,?_⟩⟩
   ·simp only[zf8];rw[Tr.rf (by simp),Tr.rl]
   ·rw[List.drop_length];trivial
   ·rw[List.drop_length];simp only[zpl,Int.add_zero]) (by
   rintro i t hi ⟨ht0,ht1,ht2⟩
   have hs:=za0 (l:=s.Waits) (k:=i) hi default
   have hn:(i64.wrap ((i:Int) - 1)).toNat=i - 1:=by rw[zj (by omega) (by omega)];omega
   have hN:=zad5 s.Waits i
   simp only[zf8,zyb,Option.isSome_some,yy2]
   rw[yy4,hn]
   obtain ⟨w,hw⟩:∃ w,w=s.Waits.getD i default:=⟨_,rfl⟩
   rw[← hw] at hs hN ⊢
   have hc:((((((((((decide (w.Number < 1))||(decide (w.Number≥s.Next)))||((decide ((i:Int) > 0))&&(decide ((s.Waits.getD (i - 1) default).Number≥w.Number))))||(decide (w.D < 0)))||(decide (w.D≥4)))||(decide (w.V < 0)))||(decide (w.V≥6)))||(!(decide (0≤w.Amount∧w.Amount≤1125899906842624))))||(decide (w.Height < 0)))||(decide (w.Due < 0))) = !decide (zad4 s.Next (zzm s.Waits i) w):=by
    rw[Bool.eq_iff_iff]
    simp only[Bool.or_eq_true,yy7,Bool.not_eq_true',decide_eq_true_eq,yy8]
    unfold zad4 inA
    by_cases h0:i=0
    ·have hq:zzm s.Waits i=0:=by unfold zzm;rw[if_pos h0]
     rw[hq];constructor<;>intro h<;>omega
    ·have hq:zzm s.Waits i=(s.Waits.getD (i - 1) default).Number:=by unfold zzm;rw[if_neg h0]
     rw[hq] at ht2 ⊢;constructor<;>intro h<;>omega
   rw[Tr.rt (by simpa using hi),Tr.rg ⟨by omega,by rw[zbx];omega⟩,Tr.rg (by
    intro h _
    rw[decide_eq_true_eq] at h
    rw[zj (by omega) (by omega),zbx]
    exact ⟨by omega,trivial⟩),Tr.rg (by simp),hs]
   by_cases hg:zad4 s.Next (zzm s.Waits i) w
   ·have h7:=hg.2.2.2.2.2.2.1
    have h8:=hg.1
    unfold inA at h7
    refine .inl ⟨t+w.Amount,?_,⟨by omega,by omega,.inr (by rw[hN];unfold zzm at h8 ht2;omega)⟩,?_⟩
    ·rw[Tr.rf (by rw[hc];simpa using hg),Tr.rl,zv (by omega),zj (by omega) (by omega)]
    ·intro r hr
     rw[hN] at hr
     simp only[zf2,zpl]
     rcases hr with ⟨k1,k2⟩ | ⟨k1,k2⟩
     ·exact .inl ⟨⟨hg,k1⟩,by rw[k2,Int.add_assoc]⟩
     ·exact .inr ⟨fun h=>k1 h.2,k2⟩
   ·refine .inr ⟨.inl false,?_,.inr ⟨fun h=>hg h.1,rfl⟩⟩
    rw[Tr.rt (by rw[hc];simpa using hg),Tr.rl]) 0 0 (by omega) ⟨by omega,by omega,.inl rfl⟩
 have h1:zhq x0 0 x2 s.Waits s.Waits.length 0 s=some r:=h1
 rw[h1]
 simp only[List.drop_zero,Int.zero_add] at h2
 rcases h2 with ⟨k1,k2⟩ | ⟨k1,k2⟩
 ·exact .inl ⟨k1,by rw[k2]⟩
 ·exact .inr ⟨k1,by rw[k2]⟩
theorem ztd (s:Stake):zi2 s=some (decide (GoodS s)):=by
 rw[zi2,zsp,Tr.rb (zkd _)]
 by_cases h0:zho s.Bank∧1≤s.Next∧s.Next≤1125899906842624∧s.Waits.length≤60
 ·obtain ⟨b0,b1,b2,b3⟩:=h0
  rw[Tr.rf (by simp[b0];omega)]
  rcases zakh s with ⟨k1,k2⟩ | ⟨k1,k2⟩
  ·refine (Tr.rj k2).trans ?_
   simp only[]
   rcases zaki b3 (sum6 s.Validators.Tokens) (sum6 s.Validators.Lost) with ⟨l1,l2⟩ | ⟨l1,l2⟩
   ·rw[Tr.rj l2,Tr.rl]
    congr 1
    rw[Bool.eq_iff_iff]
    simp only[yy7,beq_iff_eq,decide_eq_true_eq]
    exact ⟨fun h=>⟨b0,⟨b1,b2,b3⟩,k1,l1,h.1.1,h.1.2,h.2⟩,fun h=>⟨⟨h.2.2.2.2.1,h.2.2.2.2.2.1⟩,h.2.2.2.2.2.2⟩⟩
   ·rw[Tr.ri l2,Tr.rl,decide_eq_false (fun h=>l1 h.2.2.2.1)]
  ·refine (Tr.ri k2).trans ?_
   rw[Tr.rl,decide_eq_false (fun h=>k1 h.2.2.1)]
 ·rw[Tr.rt (by
   by_cases b0:zho s.Bank
   ·have h1:¬ (1≤s.Next∧s.Next≤1125899906842624∧s.Waits.length≤60):=fun h=>h0 ⟨b0,h⟩
    simp only[b0,Bool.or_eq_true,Bool.not_eq_true',decide_eq_true_eq,yy8,not_true,false_or]
    omega
   ·simp[b0]),Tr.rl,decide_eq_false (fun h=>h0 ⟨h.1,h.2.1⟩)]
def ze1 (s:Stake) (d v:Int):Int:=if ¬ GoodS s then 2 else if d < 0∨4≤d∨v < 0∨6≤v then 4 else 0
theorem ztr (s:Stake) (d v:Int):zc4 s d v=some (ze1 s d v):=by
 rw[zc4,zq8,Tr.rb (ztd s)]
 unfold ze1
 by_cases h:GoodS s
 ·rw[if_neg (by simpa using h),Tr.rf (by simpa using h)]
  by_cases h2:d < 0∨4≤d∨v < 0∨6≤v
  ·rw[if_pos h2,Tr.rt (by simpa[or_assoc] using h2),Tr.rl]
  ·rw[if_neg h2,Tr.rf (by simp only[Bool.or_eq_false_iff,yy8];omega),Tr.rl]
 ·rw[if_pos h,Tr.rt (by simpa using h),Tr.rl]
theorem GoodS.at {s:Stake} (h:GoodS s) {v:Int} (hv:0≤v∧v < 6):z55 s v:=by
 have:=h.2.2.1 v.toNat (by omega)
 rwa [show ((v.toNat:Nat):Int)=v by omega] at this
theorem GoodS.shr {s:Stake} (h:GoodS s) {d v:Int} (hd:0≤d∧d < 4) (hv:0≤v∧v < 6):0≤A46.get s.Shares d v∧A46.get s.Shares d v≤1125899906842624:=by
 have:=(h.at hv).2.1 d.toNat (by omega)
 rwa [show ((d.toNat:Nat):Int)=d by omega] at this
theorem zks {s:Stake} {d v:Int} (h:ze1 s d v=0):GoodS s∧(0≤d∧d < 4)∧(0≤v∧v < 6):=by
 unfold ze1 at h
 by_cases hg:GoodS s
 ·rw[if_neg (by simpa using hg)] at h
  by_cases h2:d < 0∨4≤d∨v < 0∨6≤v
  ·rw[if_pos h2] at h;cases h
  ·exact ⟨hg,by omega,by omega⟩
 ·rw[if_pos hg] at h;cases h
def addS (s:Stake) (b:Bank) (d v n k:Int):Stake :=
 ⟨b,{ s.Validators with Tokens:=s.Validators.Tokens.set v (s.Validators.Tokens.get v+n),Shares:=s.Validators.Shares.set v (s.Validators.Shares.get v+k) },A46.set s.Shares d v (A46.get s.Shares d v+k),s.Waits,s.Next⟩
def zdb (s:Stake) (v n:Int):Int×Int:=if s.Validators.Shares.get v=0 then (n,0) else zkc n (s.Validators.Shares.get v) (s.Validators.Tokens.get v)
def za9 (s:Stake) (d v n:Int):Stake×Int :=
 if ze1 s d v≠0 then (s,ze1 s d v) else if s.Validators.Dead.get v=true then (s,15) else if n < 1∨1125899906842624 < n then (s,2)
 else if s.Validators.Shares.get v≠0∧s.Validators.Tokens.get v=0 then (s,8) else if (zdb s v n).2≠0∨1125899906842624 < s.Validators.Shares.get v+(zdb s v n).1 then (s,6)
 else if (zdb s v n).1 < 1 then (s,8) else if (zp8 s.Bank d n).2≠0 then (s,(zp8 s.Bank d n).2) else (addS s (zp8 s.Bank d n).1 d v n (zdb s v n).1,0)
theorem z3y (a b c:Int):0≤(zkc a b c).1∧(zkc a b c).1≤1125899906842624:=by
 unfold zkc
 by_cases h:a < 0∨b < 0∨c < 1
 ·rw[if_pos h];simp
 ·rw[if_neg h]
  by_cases h2:1125899906842624 < a*b / c
  ·rw[if_pos h2];simp
  ·rw[if_neg h2]
   have h3:0≤a*b:=Int.mul_nonneg (by omega) (by omega)
   exact ⟨Int.ediv_nonneg h3 (by omega),by show a*b / c≤_;omega⟩
theorem zaal {s:Stake} {d v n:Int} (hn:n≤9223372036854775807):zj0 s d v n=some (za9 s d v n):=by
 rw[zj0,zlm,Tr.rb (ztr _ _ _)]
 unfold za9
 by_cases h0:ze1 s d v=0
 ·obtain ⟨hg,hd,hv⟩:=zks h0
  obtain ⟨⟨hT,hS,hL,h4,h5⟩,_,_⟩:=hg.at hv
  have hsh:=hg.shr hd hv
  rw[if_neg (by simpa using h0),Tr.rf (by simpa using h0),Tr.rg hv]
  by_cases h1:s.Validators.Dead.get v=true
  ·rw[if_pos h1,Tr.rt h1,Tr.rl]
  ·rw[if_neg h1,Tr.rf (by simpa using h1)]
   by_cases h2:n < 1∨1125899906842624 < n
   ·rw[if_pos h2,Tr.rt (by simpa using h2),Tr.rl]
   ·rw[if_neg h2,Tr.rf (by simp only[Bool.or_eq_false_iff,yy8];omega)]
    by_cases h3:s.Validators.Shares.get v=0
    ·have e:zdb s v n=(n,0):=by unfold zdb;rw[if_pos h3]
     rw[e,if_neg (by simp[h3]),if_neg (by simp;omega),if_neg (by show ¬ n < 1;omega),Tr.rf (by simp[h3]),Tr.rf (by simp;omega),Tr.rb zag0]
     by_cases h6:(zp8 s.Bank d n).2=0
     ·rw[if_neg (by simpa using h6),Tr.rf (by simpa using h6),Tr.rg hd,Tr.rg hv,Tr.rg hd,Tr.rg hv,Tr.rl,zj (x:=s.Validators.Tokens.get v+n) (by omega) (by omega),zj (x:=s.Validators.Shares.get v+n) (by omega) (by omega),zj (x:=A46.get s.Shares d v+n) (by omega) (by omega)]
      rfl
     ·rw[if_pos h6,Tr.rt (by simpa using h6),Tr.rl]
    ·have e:zdb s v n=zkc n (s.Validators.Shares.get v) (s.Validators.Tokens.get v):=by unfold zdb;rw[if_neg h3]
     have hm:=z3y n (s.Validators.Shares.get v) (s.Validators.Tokens.get v)
     rw[e,Tr.rt (by simp;omega)]
     by_cases h7:s.Validators.Tokens.get v=0
     ·rw[if_pos ⟨h3,h7⟩,Tr.rt (by simpa using h7),Tr.rl]
     ·rw[if_neg (by simp[h7]),Tr.rf (by simpa using h7)]
      simp only[z1n (a:=n) (b:=s.Validators.Shares.get v) (c:=s.Validators.Tokens.get v) (by omega) (by omega) (by omega),Option.isSome_some,yy2]
      rw[Tr.rg (by trivial),zj (x:=1125899906842624 - _) (by omega) (by omega)]
      obtain ⟨k,hk⟩:∃ k,k=zkc n (s.Validators.Shares.get v) (s.Validators.Tokens.get v):=⟨_,rfl⟩
      rw[← hk] at hm ⊢
      by_cases h8:k.2≠0∨1125899906842624 < s.Validators.Shares.get v+k.1
      ·rw[if_pos h8,Tr.rt (by simp only[Bool.or_eq_true,decide_eq_true_eq,bne_iff_ne];omega),Tr.rl]
      ·rw[if_neg h8,Tr.rf (by simp only[Bool.or_eq_false_iff,yy8,bne_eq_false_iff_eq];omega)]
       by_cases h9:k.1 < 1
       ·rw[if_pos h9,Tr.rt (by rw[beq_iff_eq];omega),Tr.rl]
       ·rw[if_neg h9,Tr.rf (by rw[beq_eq_false_iff_ne];omega),Tr.rb zag0]
        by_cases h6:(zp8 s.Bank d n).2=0
        ·rw[if_neg (by simpa using h6),Tr.rf (by simpa using h6),Tr.rg hd,Tr.rg hv,Tr.rg hd,Tr.rg hv,Tr.rl,zj (x:=s.Validators.Tokens.get v+n) (by omega) (by omega),zj (x:=s.Validators.Shares.get v+k.1) (by omega) (by omega),zj (x:=A46.get s.Shares d v+k.1) (by omega) (by omega)]
         rfl
        ·rw[if_pos h6,Tr.rt (by simpa using h6),Tr.rl]
 ·rw[if_pos h0,Tr.rt (by simpa using h0),Tr.rl]
theorem GoodS.fit {s:Stake} (h:GoodS s):s.Waits.length*64≤140737488351232:=by have:=h.2.1.2.2;omega
def outW (s:Stake) (d v n:Int) (w:Wait):Wait:={ w with Number:=s.Next,D:=d,V:=v,Amount:=n }
def subS (s:Stake) (b:Bank) (d v n k:Int) (w:Wait):Stake :=
 ⟨b,{ s.Validators with Tokens:=s.Validators.Tokens.set v (s.Validators.Tokens.get v - n),Shares:=s.Validators.Shares.set v (s.Validators.Shares.get v - k) },A46.set s.Shares d v (A46.get s.Shares d v - k),s.Waits++[outW s d v n w],s.Next+1⟩
def zg7 (s:Stake) (v k:Int):Int:=(zkc k (s.Validators.Tokens.get v) (s.Validators.Shares.get v)).1
def za1 (s:Stake) (d v k:Int) (w:Wait):Stake×Int :=
 if ze1 s d v≠0 then (s,ze1 s d v) else if k < 1∨1125899906842624 < k∨w.Height < 0∨w.Due < 0 then (s,2) else if A46.get s.Shares d v < k then (s,7)
 else if 60≤s.Waits.length∨1125899906842624≤s.Next then (s,6) else if zg7 s v k < 1 then (s,8) else if (zb3 s.Bank 4 5 (zg7 s v k)).2≠0 then (s,(zb3 s.Bank 4 5 (zg7 s v k)).2)
 else (subS s (zb3 s.Bank 4 5 (zg7 s v k)).1 d v (zg7 s v k) k w,0)
theorem z76 {s:Stake} {v k:Int} (h1:1≤k) (hT:inA (s.Validators.Tokens.get v)) (h:k=s.Validators.Shares.get v):zg7 s v k=s.Validators.Tokens.get v:=by
 unfold zg7 zkc
 rw[← h,if_neg (by omega),Int.mul_ediv_cancel_left _ (by omega),if_neg (by omega)]
theorem zxh {l:List Wait} (h:l.length*64≤140737488351232):zq l=some l:=by
 rw[zq,ze8]
 refine Tr.run_split (fun h0=>?_) (fun _=>?_) (.inr trivial)
 ·rw[Tr.rl,List.length_eq_zero_iff.1 h0]
 ·rw[Tr.rg (by simp only[zbx,List.length_nil];omega),Tr.rl]
theorem z1o {s:Stake} (h:GoodS s) {d v:Int} (hd:0≤d∧d < 4) (hv:0≤v∧v < 6):A46.get s.Shares d v≤s.Validators.Shares.get v:=by
 have h0:=h.shr (d:=0) (by omega) hv
 have h1:=h.shr (d:=1) (by omega) hv
 have h2:=h.shr (d:=2) (by omega) hv
 have h3:=h.shr (d:=3) (by omega) hv
 rw[← (h.at hv).2.2]
 unfold z25 shr
 obtain rfl | rfl | rfl | rfl:d=0∨d=1∨d=2∨d=3:=by omega
 all_goals omega
theorem z56 {s:Stake} {d v k:Int} {w:Wait} (hk:k≤9223372036854775807):zhx s d v k w=some (za1 s d v k w):=by
 rw[zhx,zi3,Tr.rb (ztr _ _ _)]
 unfold za1
 by_cases h0:ze1 s d v=0
 ·obtain ⟨hg,hd,hv⟩:=zks h0
  obtain ⟨⟨hT,hS,hL,h4,h5⟩,_,_⟩:=hg.at hv
  have hsh:=hg.shr hd hv
  have hle:=z1o hg hd hv
  have hN:=hg.2.1
  rw[if_neg (by simpa using h0),Tr.rf (by simpa using h0)]
  by_cases h1:k < 1∨1125899906842624 < k∨w.Height < 0∨w.Due < 0
  ·rw[if_pos h1,Tr.rt (by simpa[or_assoc] using h1),Tr.rl]
  ·rw[if_neg h1,Tr.rf (by simp only[Bool.or_eq_false_iff,yy8];omega),Tr.rg hd,Tr.rg hv]
   by_cases h2:A46.get s.Shares d v < k
   ·rw[if_pos h2,Tr.rt (by simpa using h2),Tr.rl]
   ·rw[if_neg h2,Tr.rf (by simpa using h2)]
    by_cases h3:60≤s.Waits.length∨1125899906842624≤s.Next
    ·rw[if_pos h3,Tr.rt (by simp only[Bool.or_eq_true,decide_eq_true_eq];omega),Tr.rl]
    ·rw[if_neg h3,Tr.rf (by simp only[Bool.or_eq_false_iff,yy8];omega),Tr.rg hv]
     have hm:=z3y k (s.Validators.Tokens.get v) (s.Validators.Shares.get v)
     have hlen:s.Waits.length*64≤140737488351232:=by omega
     simp only[z1n (a:=k) (b:=s.Validators.Tokens.get v) (c:=s.Validators.Shares.get v) (by omega) (by omega) (by omega),zxh hlen,Option.isSome_some,yy2]
     rw[Tr.rg (by trivial)]
     change 0≤zg7 s v k∧zg7 s v k≤1125899906842624 at hm
     have ef:∀ n:Int,(⟨s.Next,d,v,n,w.Height,w.Due,w.h0,w.h1⟩:Wait)=outW s d v n w:=fun _=>rfl
     by_cases h6:k=s.Validators.Shares.get v
     ·have ew:=z76 (by omega) hT h6
      rw[Tr.rt (by simpa using h6),ew]
      by_cases h7:s.Validators.Tokens.get v < 1
      ·rw[if_pos h7,Tr.rt (by rw[beq_iff_eq];omega),Tr.rl]
      ·rw[if_neg h7,Tr.rf (by rw[beq_eq_false_iff_ne];omega),Tr.rb z75]
       by_cases h8:(zb3 s.Bank 4 5 (s.Validators.Tokens.get v)).2=0
       ·rw[if_neg (by simpa using h8),Tr.rf (by simpa using h8),Tr.rg hd,Tr.rg hv,Tr.rg hd,Tr.rg hv,Tr.rg (by trivial),Tr.rg (by simp only[zbx,yy5];omega),Tr.rl,
         zj (x:=s.Validators.Tokens.get v - _) (by omega) (by omega),zj (x:=s.Validators.Shares.get v - k) (by omega) (by omega),zj (x:=A46.get s.Shares d v - k) (by omega) (by omega),zj (x:=s.Next+1) (by omega) (by omega)]
        rfl
       ·rw[if_pos h8,Tr.rt (by simpa using h8),Tr.rl]
     ·rw[Tr.rf (by simpa using h6)]
      change Tr.run (.ite (zg7 s v k==0) _ (.bind (zhe s.Bank (zg7 s v k)) _))=_
      by_cases h7:zg7 s v k < 1
      ·rw[if_pos h7,Tr.rt (by rw[beq_iff_eq];omega),Tr.rl]
      ·rw[if_neg h7,Tr.rf (by rw[beq_eq_false_iff_ne];omega),Tr.rb z75]
       change _=some (if (zb3 s.Bank 4 5 (zg7 s v k)).2≠0 then (s,(zb3 s.Bank 4 5 (zg7 s v k)).2) else (subS s (zb3 s.Bank 4 5 (zg7 s v k)).1 d v (zg7 s v k) k w,0))
       by_cases h8:(zb3 s.Bank 4 5 (zg7 s v k)).2=0
       ·rw[if_neg (by simpa using h8),Tr.rf (by simpa using h8),Tr.rg hd,Tr.rg hv,Tr.rg hd,Tr.rg hv,Tr.rg (by trivial),Tr.rg (by simp only[zbx,yy5];omega),Tr.rl,
         zj (x:=s.Validators.Tokens.get v - _) (by unfold zg7 at hm;omega) (by unfold zg7 at hm;omega),zj (x:=s.Validators.Shares.get v - k) (by omega) (by omega),zj (x:=A46.get s.Shares d v - k) (by omega) (by omega),zj (x:=s.Next+1) (by omega) (by omega)]
        rfl
       ·rw[if_pos h8,Tr.rt (by simpa using h8),Tr.rl]
 ·rw[if_pos h0,Tr.rt (by simpa using h0),Tr.rl]
def zyc (s:Stake) (v:Int) (j d:Bool):Stake:={ s with Validators:={ s.Validators with Jailed:=s.Validators.Jailed.set v j,Dead:=s.Validators.Dead.set v d } }
def zbf (s:Stake) (v what:Int):Stake×Int :=
 if ze1 s 0 v≠0 then (s,ze1 s 0 v) else if what=0∧s.Validators.Jailed.get v=true then (s,14) else if 0 < what∧s.Validators.Dead.get v=true then (s,15)
 else if what=1∧s.Validators.Jailed.get v=false then (s,4) else (zyc s v (what != 1) (what==2),0)
theorem z1p {α:Type} {a:A6 α} {v:Int} {x:α} (hv:0≤v∧v < 6) (h:a.get v=x):a.set v x=a:=by
 subst h
 obtain rfl | rfl | rfl | rfl | rfl | rfl:v=0∨v=1∨v=2∨v=3∨v=4∨v=5:=by omega
 all_goals rfl
theorem zaam {s:Stake} (h:GoodS s) {v:Int} (hv:0≤v∧v < 6) (hj:s.Validators.Jailed.get v=false):s.Validators.Dead.get v=false:=by
 have:=(h.at hv).1.2.2.2.2
 cases hd:s.Validators.Dead.get v
 ·rfl
 ·exact absurd ⟨hd,hj⟩ this
theorem zag5 {s:Stake} {v:Int}:zi4 s v=some (zbf s v 0):=by
 rw[zi4,zsq,Tr.rb (ztr _ _ _)]
 unfold zbf
 by_cases h0:ze1 s 0 v=0
 ·obtain ⟨hg,hd,hv⟩:=zks h0
  rw[if_neg (by simpa using h0),Tr.rf (by simpa using h0),Tr.rg hv]
  by_cases h1:s.Validators.Jailed.get v=true
  ·rw[if_pos ⟨rfl,h1⟩,Tr.rt h1,Tr.rl]
  ·have e:s.Validators.Dead.set v false=s.Validators.Dead:=z1p hv (zaam hg hv (by simpa using h1))
   rw[if_neg (fun h=>h1 h.2),Tr.rf (by simpa using h1),Tr.rg hv,Tr.rl,if_neg (by simp),if_neg (by simp)]
   unfold zyc
   show _=some (({ s with Validators:={ s.Validators with Jailed:=s.Validators.Jailed.set v true,Dead:=s.Validators.Dead.set v false } }:Stake),(0:Int))
   rw[e]
 ·rw[if_pos h0,Tr.rt (by simpa using h0),Tr.rl]
theorem zag6 {s:Stake} {v:Int}:zna s v=some (zbf s v 1):=by
 rw[zna,zo7,Tr.rb (ztr _ _ _)]
 unfold zbf
 by_cases h0:ze1 s 0 v=0
 ·obtain ⟨hg,hd,hv⟩:=zks h0
  rw[if_neg (by simpa using h0),Tr.rf (by simpa using h0),Tr.rg hv,if_neg (by simp)]
  by_cases h1:s.Validators.Dead.get v=true
  ·rw[if_pos ⟨by omega,h1⟩,Tr.rt h1,Tr.rl]
  ·have e:s.Validators.Dead.set v false=s.Validators.Dead:=z1p hv (by simpa using h1)
   rw[if_neg (fun h=>h1 h.2),Tr.rf (by simpa using h1)]
   by_cases h2:s.Validators.Jailed.get v=false
   ·rw[if_pos ⟨rfl,h2⟩,Tr.rt (by simpa using h2),Tr.rl]
   ·rw[if_neg (fun h=>h2 h.2),Tr.rf (by simpa using h2),Tr.rl]
    unfold zyc
    show _=some (({ s with Validators:={ s.Validators with Jailed:=s.Validators.Jailed.set v false,Dead:=s.Validators.Dead.set v false } }:Stake),(0:Int))
    rw[e]
 ·rw[if_pos h0,Tr.rt (by simpa using h0),Tr.rl]
theorem zaan {s:Stake} {v:Int}:zi5 s v=some (zbf s v 2):=by
 rw[zi5,zsr,Tr.rb (ztr _ _ _)]
 unfold zbf
 by_cases h0:ze1 s 0 v=0
 ·obtain ⟨hg,hd,hv⟩:=zks h0
  rw[if_neg (by simpa using h0),Tr.rf (by simpa using h0),Tr.rg hv,if_neg (by simp)]
  by_cases h1:s.Validators.Dead.get v=true
  ·rw[if_pos ⟨by omega,h1⟩,Tr.rt h1,Tr.rl]
  ·rw[if_neg (fun h=>h1 h.2),Tr.rf (by simpa using h1),Tr.rg hv,Tr.rg hv,if_neg (by simp),Tr.rl]
   rfl
 ·rw[if_pos h0,Tr.rt (by simpa using h0),Tr.rl]
theorem zp9 {α:Type} {l:List α} {i:Nat} (h:i < l.length) (d:α):l.getD i d=l[i]:=by rw[yy0,yy3 h];rfl
theorem z57 {α:Type} {l:List α} {i:Nat} (h:i < l.length) (d:α):l.set i (l.getD i d)=l:=by rw[zp9 h];exact List.set_getElem_self h
theorem z58 {σ ρ τ α:Type} {F:σ→Option (σ⊕ρ)} (l:List α) (d:α) (mk:Nat→List α→τ→σ) (I:Nat→τ→Prop) (f:α→α) (g:τ→α→τ) (out:List α→τ→ρ)
  (hend:∀ W t,W.length=l.length→I l.length t→F (mk l.length W t)=some (.inr (out W t)))
  (hstep:∀ i W t,i < l.length→W.length=l.length→W.getD i d=l.getD i d→I i t→F (mk i W t)=some (.inl (mk (i+1) (W.set i (f (l.getD i d))) (g t (l.getD i d))))∧I (i+1) (g t (l.getD i d))) (t:τ) (h0:I 0 t) :
  zdv F (mk 0 l t)=some (out (l.map f) (l.foldl g t)):=by
 have:=zms (F:=F) l.length (fun i (s:List α×τ)=>mk i s.1 s.2) (fun i s=>s.1=(l.take i).map f++l.drop i∧I i s.2) (fun i s=>out (l.map f) ((l.drop i).foldl g s.2)) (by
   rintro ⟨W,t⟩ ⟨h1,h2⟩
   simp only at h1 h2
   rw[hend W t (by rw[h1];simp) h2,List.drop_length,h1,List.take_length,List.drop_length,List.append_nil];rfl) (by
   rintro i ⟨W,t⟩ hi ⟨h1,h2⟩
   simp only at h1 h2
   have hs:=za0 (l:=l) (k:=i) hi d
   have hW:W.length=l.length:=by rw[h1];simp;omega
   have ht:l.take (i+1)=l.take i++[l.getD i d]:=by rw[List.take_succ_eq_append_getElem hi,zp9 hi]
   have hlen:((l.take i).map f).length=i:=by simp;omega
   have hg:W.getD i d=l.getD i d:=by
    rw[h1,yy0,List.getElem?_append_right (by omega),hlen,Nat.sub_self,hs];rfl
   obtain ⟨k1,k2⟩:=hstep i W t hi hW hg h2
   refine .inl ⟨(W.set i (f (l.getD i d)),g t (l.getD i d)),k1,⟨?_,k2⟩,?_⟩
   ·show W.set i _=_
    rw[h1,List.set_append_right _ _ (by omega),hlen,Nat.sub_self,hs,List.set_cons_zero,ht,List.map_append,List.append_assoc];rfl
   ·rw[hs,List.foldl_cons]) 0 (l,t) (Nat.zero_le _) ⟨by simp,h0⟩
 simpa using this
def z59 (c h:Int) (w:Wait):Wait:={ w with h0:=if c=0∧w.h0≤h then 0 else w.h0,h1:=if c=1∧w.h1≤h then 0 else w.h1 }
def zmo (s:Stake) (c h:Int):Stake:={ s with Waits:=s.Waits.map (z59 c h) }
theorem zakj {c h:Int} {w:Wait} (hc:c < 0∨2≤c):z59 c h w=w:=by unfold z59;rw[if_neg (by omega),if_neg (by omega)]
theorem z77 {s:Stake} {c h:Int} (hc:c < 0∨2≤c):zmo s c h=s:=by
 unfold zmo
 have:s.Waits.map (z59 c h)=s.Waits:=by
  rw[show z59 c h=id from funext fun w=>zakj hc,List.map_id]
 rw[this]
theorem zyd {s:Stake} {c h:Int} (hl:s.Waits.length*64≤140737488351232):zff s c h=some (zmo s c h):=by
 rw[zff,zm7]
 by_cases hc:c < 0∨2≤c
 ·rw[Tr.rt (by simpa using hc),Tr.rl,z77 hc]
 ·rw[Tr.rf (by simp only[Bool.or_eq_false_iff,yy8];omega),Tr.rb (zxh hl)]
  have key:∀ z:Stake,zhy c h s.Waits.length 0 { s with Waits:=s.Waits } z=some (zmo s c h,z):=by
   intro z
   rw[zhy]
   refine z58 (F:=fun s:Int×Int×Int×Int×Stake×Stake=>(zdz s.1 s.2.1 s.2.2.1 s.2.2.2.1 s.2.2.2.2.1 s.2.2.2.2.2).run) s.Waits default
    (fun i W (_:Unit)=>(c,h,(s.Waits.length:Int),(i:Int),{ s with Waits:=W },z)) (fun _ _=>True) (z59 c h) (fun t _=>t) (fun W _=>({ s with Waits:=W },z)) ?_ ?_ () trivial
   ·intro W t hW _
    simp only[zdz];rw[Tr.rf (by simp),Tr.rl]
   ·intro i W t hi hW hg _
    refine ⟨?_,trivial⟩
    simp only[zdz]
    rw[yy4,hg]
    obtain ⟨w,hw⟩:∃ w,w=s.Waits.getD i default:=⟨_,rfl⟩
    rw[← hw] at hg ⊢
    rw[Tr.rt (by simpa using hi),Tr.rg ⟨by omega,by rw[zbx];omega⟩,Tr.rg (by omega)]
    by_cases hp:A2.get ⟨w.h0,w.h1⟩ c≤h
    ·rw[Tr.rt (by simpa using hp),Tr.rg ⟨by omega,by rw[zbx];omega⟩,Tr.rg (by omega),Tr.rl,zv (by omega)]
     congr 4
     unfold z59
     unfold A2.get at hp
     obtain rfl | rfl:c=0∨c=1:=by omega
     ·simp at hp;simp[hp]
     ·simp at hp;simp[hp]
    ·have e:z59 c h w=w:=by
      unfold z59
      unfold A2.get at hp
      obtain rfl | rfl:c=0∨c=1:=by omega
      ·simp at hp
       rw[if_neg (by omega),if_neg (by omega)]
      ·simp at hp
       rw[if_neg (by omega),if_neg (by omega)]
     rw[Tr.rf (by simpa using hp),Tr.rl,zv (by omega),e,← hg,z57 (by omega)]
  rw[Tr.rb (key _),Tr.rl]
def z27 (time:Int) (w:Wait):Bool:=(decide (w.Due≤time)&&w.h0==0)&&w.h1==0
def payF (time:Int) (t:Bank×List Wait×List Int) (w:Wait):Bank×List Wait×List Int :=
 if z27 time w=true then ((z52 t.1 w.D w.Amount).1,t.2.1,t.2.2++[w.Number]) else (t.1,t.2.1++[w],t.2.2)
def z3z (s:Stake) (time:Int):Stake×List Int×Int :=
 if ¬ GoodS s then (s,[],2) else ({ s with Bank:=(s.Waits.foldl (payF time) (s.Bank,[],[])).1,Waits:=(s.Waits.foldl (payF time) (s.Bank,[],[])).2.1 },(s.Waits.foldl (payF time) (s.Bank,[],[])).2.2,0)
theorem zag7 {b:Bank} {d n:Int} (hg:zho b) (hd:0≤d∧d < 4) (hn:inA n) (hw:n≤b.Waiting):(z52 b d n).2=0∧zho (z52 b d n).1∧(z52 b d n).1.Waiting=b.Waiting - n∧(z52 b d n).1.Bonded=b.Bonded∧(z52 b d n).1.Burnt=b.Burnt:=by
 have e:z52 b d n=zb3 b 5 d n:=by unfold z52;rw[if_neg (by omega)]
 rw[e,z54 (f:=5) (t:=d) hg hn.1 hn.2 hw]
 refine ⟨rfl,(zn0 (.inr (.inr (.inl ⟨rfl,by omega⟩))) hg hn.1 hw).1,?_⟩
 obtain rfl | rfl | rfl | rfl:d=0∨d=1∨d=2∨d=3:=by omega
 all_goals simp[zjg,bkA,plA,A7.get,A7.set]
theorem zvx {next:Int}:∀ {l:List Wait} {p:Int} (i:Nat),zf2 next p l→∃ q,zf2 next q (l.drop i)
 | l,p,0,h=>⟨p,h⟩
 | [],p,_+1,h=>⟨p,trivial⟩
 | w::l,p,i+1,h=>zvx i h.2
theorem zqa {next:Int}:∀ {l:List Wait} {p:Int},zf2 next p l→0≤zpl l
 | [],_,_=>Int.le_refl 0
 | w::l,p,h=>by
  have h1:=zqa h.2
  have h2:=h.1.2.2.2.2.2.2.1
  unfold inA at h2
  simp only[zpl];omega
def PayI (s:Stake) (i:Nat) (t:Bank×List Wait×List Int):Prop :=
 zho t.1∧zpl (s.Waits.drop i)≤t.1.Waiting∧t.2.1.length≤i∧t.2.2.length≤i∧t.1.Bonded=s.Bank.Bonded∧t.1.Burnt=s.Bank.Burnt
theorem zag8 {s:Stake} (hg:GoodS s) {time:Int} {i:Nat} (hi:i < s.Waits.length) {t:Bank×List Wait×List Int} (h:PayI s i t) :
  PayI s (i+1) (payF time t (s.Waits.getD i default))∧(z52 t.1 (s.Waits.getD i default).D (s.Waits.getD i default).Amount).2=0:=by
 obtain ⟨h1,h2,h3,h4,h5,h6⟩:=h
 have hs:=za0 (l:=s.Waits) (k:=i) hi default
 obtain ⟨q,hq⟩:=zvx i hg.2.2.2.1
 rw[hs] at hq h2
 obtain ⟨w,hw⟩:∃ w,w=s.Waits.getD i default:=⟨_,rfl⟩
 rw[← hw] at hq h2 ⊢
 have hn:=zqa hq.2
 obtain ⟨_,_,d0,d1,_,_,ha,_,_⟩:=hq.1
 simp only[zpl] at h2
 obtain ⟨p1,p2,p3,p4,p5⟩:=zag7 h1 ⟨d0,d1⟩ ha (by omega)
 refine ⟨?_,p1⟩
 unfold payF
 by_cases hd:z27 time w=true
 ·rw[if_pos hd]
  exact ⟨p2,by show _≤(z52 t.1 w.D w.Amount).1.Waiting;omega,by show t.2.1.length≤_;omega,by show (t.2.2++[w.Number]).length≤_;simp;omega,p4.trans h5,p5.trans h6⟩
 ·rw[if_neg hd]
  unfold inA at ha
  exact ⟨h1,by show _≤t.1.Waiting;omega,by show (t.2.1++[w]).length≤_;simp;omega,by show t.2.2.length≤_;omega,h5,h6⟩
theorem zad6 {s:Stake} (hg:GoodS s):PayI s 0 (s.Bank,[],[]):=⟨hg.1,by rw[List.drop_zero,hg.2.2.2.2.2.1];exact Int.le_refl _,by simp,by simp,rfl,rfl⟩
theorem zat7 {s:Stake} {time:Int}:zoj s time=some (z3z s time):=by
 rw[zoj,zvo,Tr.rb (ztd s)]
 unfold z3z
 by_cases hg:GoodS s
 ·rw[if_neg (by simpa using hg),Tr.rf (by simpa using hg)]
  have h60:=hg.2.1.2.2
  have key:∀ z:Stake,zm9 time s.Waits s.Waits.length 0 s z [] []=some (.inr ({ s with Bank:=(s.Waits.foldl (payF time) (s.Bank,[],[])).1 },z,(s.Waits.foldl (payF time) (s.Bank,[],[])).2.1,(s.Waits.foldl (payF time) (s.Bank,[],[])).2.2)):=by
   intro z
   rw[zm9]
   refine zjf (F:=fun s:Int×(List Wait)×Int×Int×Stake×Stake×(List Wait)×(List Int)=>(zhi s.1 s.2.1 s.2.2.1 s.2.2.2.1 s.2.2.2.2.1 s.2.2.2.2.2.1 s.2.2.2.2.2.2.1 s.2.2.2.2.2.2.2).run) s.Waits default
    (fun i t=>(time,s.Waits,(s.Waits.length:Int),(i:Int),{ s with Bank:=t.1 },z,t.2.1,t.2.2)) (PayI s) (payF time) (fun t=>.inr ({ s with Bank:=t.1 },z,t.2.1,t.2.2)) ?_ ?_ (s.Bank,[],[]) (zad6 hg)
   ·intro t _
    simp only[zhi];rw[Tr.rf (by simp),Tr.rl]
   ·intro i t hi hI
    obtain ⟨k1,k2⟩:=zag8 hg (time:=time) hi hI
    refine ⟨?_,k1⟩
    obtain ⟨h1,h2,h3,h4,h5,h6⟩:=hI
    simp only[zhi]
    rw[yy4]
    obtain ⟨w,hw⟩:∃ w,w=s.Waits.getD i default:=⟨_,rfl⟩
    rw[← hw] at k2 ⊢
    have hc:((decide (w.Due > time))||(!((w.h0==0)&&((w.h1==0)&&true)))) = !z27 time w:=by
     unfold z27
     rw[Bool.eq_iff_iff]
     simp
     omega
    rw[Tr.rt (by simpa using hi),Tr.rg ⟨by omega,by rw[zbx];omega⟩]
    unfold payF
    by_cases hd:z27 time w=true
    ·rw[Tr.rf (by rw[hc,hd];rfl),Tr.rb zao9,Tr.rf (by simpa using k2),Tr.rg (by simp only[znz,yy5];omega),Tr.rl,if_pos hd,zv (by omega)]
    ·rw[Tr.rt (by rw[hc];simpa using hd),Tr.rg (by simp only[zbx,yy5];omega),Tr.rl,if_neg hd,zv (by omega)]
  rw[Tr.rj (key _),Tr.rl]
 ·rw[if_pos hg,Tr.rt (by simpa using hg),Tr.rl]
def hitW (v h:Int) (w:Wait):Bool:=w.V==v&&decide (w.Height≥h)
def slN (v h f:Int) (w:Wait):Int:=if hitW v h w=true then (ztb w.Amount f).1 else 0
def slW (v h f:Int) (w:Wait):Wait:=if hitW v h w=true then { w with Amount:=w.Amount - (ztb w.Amount f).1 } else w
def z6a (v h f:Int) (l:List Wait):Int:=l.foldl (fun t w=>t+slN v h f w) 0
def zfd (s:Stake) (v f:Int):Int:=(ztb (s.Validators.Tokens.get v) f).1
def zex (s:Stake) (v h f:Int):Stake×Int×Int :=
 if ze1 s 0 v≠0 then (s,0,ze1 s 0 v) else if f < 0∨1000 < f then (s,0,2)
 else (⟨(zaaj s.Bank (zfd s v f) (z6a v h f s.Waits)).1,{ s.Validators with Tokens:=s.Validators.Tokens.set v (s.Validators.Tokens.get v - zfd s v f),Lost:=s.Validators.Lost.set v (s.Validators.Lost.get v+(zfd s v f+z6a v h f s.Waits)) },s.Shares,s.Waits.map (slW v h f),s.Next⟩,
  zfd s v f+z6a v h f s.Waits,0)
theorem zqb {n f:Int} (hn:inA n) (hf:0≤f∧f≤1000):(ztb n f).2=0∧0≤(ztb n f).1∧(ztb n f).1≤n:=by
 obtain ⟨_,h2,h3⟩:=zagx hn.1 hn.2 hf.1 hf.2
 have e:ztb n f=(n*f / 1000,0):=by
  unfold ztb
  rw[if_neg (by omega)]
 rw[e]
 generalize n*f=x at h2 h3
 exact ⟨rfl,by show 0≤x / 1000;omega,by show x / 1000≤n;omega⟩
theorem zag9 {v h f:Int} {w:Wait} (hw:inA w.Amount) (hf:0≤f∧f≤1000):0≤slN v h f w∧slN v h f w≤w.Amount:=by
 unfold slN
 by_cases hh:hitW v h w=true
 ·rw[if_pos hh];exact (zqb hw hf).2
 ·rw[if_neg hh];unfold inA at hw;omega
def SlI (s:Stake) (i:Nat) (t:Int):Prop:=0≤t∧t+zpl (s.Waits.drop i)≤s.Bank.Waiting
theorem zach {s:Stake} (hg:GoodS s) {v h f:Int} (hf:0≤f∧f≤1000) {i:Nat} (hi:i < s.Waits.length) {t:Int} (hI:SlI s i t) :
  SlI s (i+1) (t+slN v h f (s.Waits.getD i default))∧inA (s.Waits.getD i default).Amount∧t+slN v h f (s.Waits.getD i default)≤400000:=by
 obtain ⟨h1,h2⟩:=hI
 have hs:=za0 (l:=s.Waits) (k:=i) hi default
 obtain ⟨q,hq⟩:=zvx i hg.2.2.2.1
 rw[hs] at hq h2
 obtain ⟨w,hw⟩:∃ w,w=s.Waits.getD i default:=⟨_,rfl⟩
 rw[← hw] at hq h2 ⊢
 have hn:=zqa hq.2
 have ha:=hq.1.2.2.2.2.2.2.1
 have hb:=zag9 (v:=v) (h:=h) ha hf
 have hw4:okN s.Bank.Waiting:=hg.1.2.2.2.2.2.1
 unfold okN at hw4
 simp only[zpl] at h2
 exact ⟨⟨by omega,by omega⟩,ha,by omega⟩
theorem z78 {s:Stake} (hg:GoodS s):SlI s 0 0:=⟨by omega,by rw[List.drop_zero,hg.2.2.2.2.2.1];omega⟩
theorem zaha {s:Stake} (hg:GoodS s) {v h f:Int} (hf:0≤f∧f≤1000):0≤z6a v h f s.Waits∧z6a v h f s.Waits≤s.Bank.Waiting:=by
 have key:∀ n,n≤s.Waits.length→SlI s n ((s.Waits.take n).foldl (fun t w=>t+slN v h f w) 0):=by
  intro n
  induction n with
  | zero=>intro _;exact z78 hg
  | succ n ih =>
   intro hn
   rw[List.take_succ_eq_append_getElem (by omega),List.foldl_append,List.foldl_cons,List.foldl_nil,← zp9 (by omega) default]
   exact (zach hg hf (by omega) (ih (by omega))).1
 have:=key s.Waits.length (Nat.le_refl _)
 rw[List.take_length] at this
 obtain ⟨h1,h2⟩:=this
 rw[List.drop_length] at h2
 simp only[zpl,Int.add_zero] at h2
 exact ⟨h1,h2⟩
theorem zxi {s:Stake} (hg:GoodS s) {v:Int} (hv:0≤v∧v < 6):s.Validators.Tokens.get v≤s.Bank.Bonded∧s.Validators.Lost.get v≤s.Bank.Burnt:=by
 have e1:=hg.2.2.2.2.1
 have e2:=hg.2.2.2.2.2.2
 have e:∀ i:Int,0≤i→i < 6→(0≤s.Validators.Tokens.get i∧s.Validators.Tokens.get i≤1125899906842624)∧(0≤s.Validators.Lost.get i∧s.Validators.Lost.get i≤1125899906842624):=fun i h0 h1=>by
  obtain ⟨⟨k1,_,k3,_⟩,_⟩:=hg.at (v:=i) ⟨h0,h1⟩
  exact ⟨k1,k3⟩
 have t0:(0≤s.Validators.Tokens.x0∧s.Validators.Tokens.x0≤1125899906842624)∧(0≤s.Validators.Lost.x0∧s.Validators.Lost.x0≤1125899906842624):=e 0 (by omega) (by omega)
 have t1:(0≤s.Validators.Tokens.x1∧s.Validators.Tokens.x1≤1125899906842624)∧(0≤s.Validators.Lost.x1∧s.Validators.Lost.x1≤1125899906842624):=e 1 (by omega) (by omega)
 have t2:(0≤s.Validators.Tokens.x2∧s.Validators.Tokens.x2≤1125899906842624)∧(0≤s.Validators.Lost.x2∧s.Validators.Lost.x2≤1125899906842624):=e 2 (by omega) (by omega)
 have t3:(0≤s.Validators.Tokens.x3∧s.Validators.Tokens.x3≤1125899906842624)∧(0≤s.Validators.Lost.x3∧s.Validators.Lost.x3≤1125899906842624):=e 3 (by omega) (by omega)
 have t4:(0≤s.Validators.Tokens.x4∧s.Validators.Tokens.x4≤1125899906842624)∧(0≤s.Validators.Lost.x4∧s.Validators.Lost.x4≤1125899906842624):=e 4 (by omega) (by omega)
 have t5:(0≤s.Validators.Tokens.x5∧s.Validators.Tokens.x5≤1125899906842624)∧(0≤s.Validators.Lost.x5∧s.Validators.Lost.x5≤1125899906842624):=e 5 (by omega) (by omega)
 unfold sum6 at e1 e2
 obtain rfl | rfl | rfl | rfl | rfl | rfl:v=0∨v=1∨v=2∨v=3∨v=4∨v=5:=by omega
 ·show s.Validators.Tokens.x0≤_∧s.Validators.Lost.x0≤_;omega
 ·show s.Validators.Tokens.x1≤_∧s.Validators.Lost.x1≤_;omega
 ·show s.Validators.Tokens.x2≤_∧s.Validators.Lost.x2≤_;omega
 ·show s.Validators.Tokens.x3≤_∧s.Validators.Lost.x3≤_;omega
 ·show s.Validators.Tokens.x4≤_∧s.Validators.Lost.x4≤_;omega
 ·show s.Validators.Tokens.x5≤_∧s.Validators.Lost.x5≤_;omega
theorem zaci {b:Bank} {x y:Int} (hg:zho b) (h0:0≤x) (h1:x≤b.Bonded) (h2:0≤y) (h3:y≤b.Waiting) :
  zaaj b x y=(⟨b.Free,b.Bonded - x,b.Waiting - y,b.Burnt+x+y⟩,0)∧zho (zaaj b x y).1:=by
 have p1:okN b.Bonded:=hg.2.2.2.2.1
 have p2:okN b.Waiting:=hg.2.2.2.2.2.1
 unfold okN at p1 p2
 have e1:=z54 (f:=4) (t:=6) (n:=x) hg h0 (by omega) h1
 have g1:=(zn0 (f:=4) (t:=6) (n:=x) (.inr (.inr (.inr (.inl ⟨rfl,rfl⟩)))) hg h0 h1).1
 have e3:(plA (zjg b 4 6 x)).get 5=b.Waiting:=by simp[zjg,bkA,plA,A7.get,A7.set]
 have e2:=z54 (f:=5) (t:=6) (n:=y) g1 h2 (by omega) (by rw[e3];exact h3)
 have g2:=(zn0 (f:=5) (t:=6) (n:=y) (.inr (.inr (.inr (.inr ⟨rfl,rfl⟩)))) g1 h2 (by rw[e3];exact h3)).1
 have e:zaaj b x y=(zjg (zjg b 4 6 x) 5 6 y,0):=by
  unfold zaaj
  rw[e1]
  simp only[e2]
  rw[if_neg (by simp),if_neg (by simp)]
 rw[e]
 refine ⟨?_,g2⟩
 simp[zjg,bkA,plA,A7.get,A7.set]
theorem z6b {s:Stake} {v h f:Int}:zfp s v h f=some (zex s v h f):=by
 rw[zfp,zq9,Tr.rb (ztr _ _ _)]
 unfold zex
 by_cases h0:ze1 s 0 v=0
 ·obtain ⟨hg,hd,hv⟩:=zks h0
  obtain ⟨⟨hT,hS,hL,h4,h5⟩,_,_⟩:=hg.at hv
  rw[if_neg (by simpa using h0),Tr.rf (by simpa using h0),Tr.rg hv,Tr.rb zagy]
  by_cases hf:f < 0∨1000 < f
  ·have e:ztb (s.Validators.Tokens.get v) f=(0,2):=by unfold ztb;rw[if_pos (by omega)]
   rw[if_pos hf,e,Tr.rt (by rfl),Tr.rl]
  ·have hf':0≤f∧f≤1000:=by omega
   obtain ⟨b1,b2,b3⟩:=zqb hT hf'
   rw[if_neg hf,Tr.rf (by simpa using b1),Tr.rb (zxh hg.fit)]
   have key:∀ z:Stake,zj1 v h f v (ztb (s.Validators.Tokens.get v) f).1 0 s.Waits.length 0 s z s.Waits=some (v,(ztb (s.Validators.Tokens.get v) f).1,z6a v h f s.Waits,s,z,s.Waits.map (slW v h f)):=by
    intro z
    rw[zj1]
    refine z58 (F:=fun s:Int×Int×Int×Int×Int×Int×Int×Int×Stake×Stake×(List Wait)=>(zfg s.1 s.2.1 s.2.2.1 s.2.2.2.1 s.2.2.2.2.1 s.2.2.2.2.2.1 s.2.2.2.2.2.2.1 s.2.2.2.2.2.2.2.1 s.2.2.2.2.2.2.2.2.1 s.2.2.2.2.2.2.2.2.2.1 s.2.2.2.2.2.2.2.2.2.2).run) s.Waits default
     (fun i W t=>(v,h,f,v,(ztb (s.Validators.Tokens.get v) f).1,t,(s.Waits.length:Int),(i:Int),s,z,W)) (SlI s) (slW v h f) (fun t w=>t+slN v h f w) (fun W t=>(v,(ztb (s.Validators.Tokens.get v) f).1,t,s,z,W)) ?_ ?_ 0 (z78 hg)
    ·intro W t hW _
     simp only[zfg];rw[Tr.rf (by simp),Tr.rl]
    ·intro i W t hi hW hgi hI
     have h60:=hg.2.1.2.2
     obtain ⟨k1,k2,k3⟩:=zach hg (v:=v) (h:=h) hf' hi hI
     refine ⟨?_,k1⟩
     have ht:=hI.1
     simp only[zfg]
     rw[yy4,hgi]
     obtain ⟨w,hw⟩:∃ w,w=s.Waits.getD i default:=⟨_,rfl⟩
     rw[← hw] at k2 k3 hgi ⊢
     rw[Tr.rt (by simpa using hi),Tr.rg ⟨by omega,by rw[zbx];omega⟩]
     unfold slN at k3
     unfold slN slW
     by_cases hh:hitW v h w=true
     ·obtain ⟨c1,c2,c3⟩:=zqb k2 hf'
      unfold inA at k2
      rw[if_pos hh] at k3
      rw[Tr.rt (b:=w.V==v&&decide (w.Height≥h)) hh,Tr.rb zagy,Tr.rl,if_pos hh,if_pos hh,zv (by omega),zj (x:=t+_) (by omega) (by omega),zj (x:=w.Amount - _) (by omega) (by omega)]
     ·rw[Tr.rf (by unfold hitW at hh;simpa using hh),Tr.rl,if_neg hh,if_neg hh,zv (by omega),← hgi,z57 (by omega),Int.add_zero]
   have hsum:=zaha hg (v:=v) (h:=h) hf'
   have htok:=zxi hg hv
   have o1:okN s.Bank.Waiting:=hg.1.2.2.2.2.2.1
   have o2:okN s.Bank.Bonded:=hg.1.2.2.2.2.1
   have o3:okN s.Bank.Burnt:=hg.1.2.2.2.2.2.2.1
   unfold okN at o1 o2 o3
   have hb:=(zaci hg.1 b2 (Int.le_trans b3 htok.1) hsum.1 hsum.2).1
   rw[Tr.rb (key _),Tr.rb zapa]
   unfold inA at hL hT
   unfold zfd
   simp only[]
   rw[Tr.rf (by rw[hb];rfl),Tr.rl]
   obtain ⟨x,hx⟩:∃ x,x=(ztb (s.Validators.Tokens.get v) f).1:=⟨_,rfl⟩
   obtain ⟨y,hy⟩:∃ y,y=z6a v h f s.Waits:=⟨_,rfl⟩
   rw[← hx] at b2 b3 ⊢
   rw[← hy] at hsum ⊢
   rw[zj (x:=s.Validators.Tokens.get v - x) (by omega) (by omega),zj (x:=s.Validators.Lost.get v+x) (by omega) (by omega),zj (x:=s.Validators.Lost.get v+x+y) (by omega) (by omega),zj (x:=x+y) (by omega) (by omega),Int.add_assoc]
 ·rw[if_pos h0,Tr.rt (by simpa using h0),Tr.rl]
def ltL (a b:Power):Bool:=decide (b.N < a.N)||(a.N==b.N&&decide (a.V < b.V))
theorem zaap {a b:Power}:ltL a b=true↔b.N < a.N∨(a.N=b.N∧a.V < b.V):=by unfold ltL;simp
theorem z6c {a b:Power}:ltL a b=false↔¬ (b.N < a.N∨(a.N=b.N∧a.V < b.V)):=by rw[← zaap];simp
theorem swo_ltL:Sort.SWO ltL:=⟨fun x=>by rw[z6c];omega,fun x y z=>by simp only[zaap];omega,fun x y z=>by simp only[z6c];omega⟩
theorem z79 {lt:Power→Power→Bool} (a:Nat):∀ (j:Nat) (d:Array Power),j < d.size →
  (Sort.insInner lt a j d).size=d.size∧(∀ k,j < k→(Sort.insInner lt a j d)[k]! = d[k]!)∧∀ k,k≤j→∃ q,q≤j∧(Sort.insInner lt a j d)[k]! = d[q]!
 | 0,d,hj=>by
  unfold Sort.insInner
  exact ⟨rfl,fun _ _=>rfl,fun k hk=>⟨k,hk,rfl⟩⟩
 | j+1,d,hj=>by
  unfold Sort.insInner
  split
  ·obtain ⟨h1,h2,h3⟩:=z79 (lt:=lt) a j (Sort.swp d (j+1) j) (by rw[Sort.swp_size];omega)
   have g:=Sort.swp_get d hj (show j < d.size by omega)
   refine ⟨by rw[h1,Sort.swp_size],fun k hk=>?_,fun k hk=>?_⟩
   ·rw[h2 k (by omega),g,if_neg (by omega),if_neg (by omega)]
   ·by_cases he:k=j+1
    ·exact ⟨j,by omega,by rw[h2 k (by omega),g,if_neg (by omega),if_pos he]⟩
    ·obtain ⟨q,q1,q2⟩:=h3 k (by omega)
     by_cases hq:q=j
     ·exact ⟨j+1,by omega,by rw[q2,g,if_pos hq]⟩
     ·exact ⟨q,by omega,by rw[q2,g,if_neg hq,if_neg (by omega)]⟩
  ·exact ⟨rfl,fun _ _=>rfl,fun k hk=>⟨k,hk,rfl⟩⟩
theorem zacj (a:Nat):∀ (j:Nat) (d:Array Power),j < d.size→(∀ k,k < j→d[k]!.V < d[j]!.V)→Sort.insInner ltN a j d=Sort.insInner ltL a j d
 | 0,d,_,_=>by unfold Sort.insInner;rfl
 | j+1,d,hj,h=>by
  have e:ltN d[j+1]! d[j]! = ltL d[j+1]! d[j]! := by
   have:=h j (by omega)
   unfold ltN ltL
   rw[Bool.eq_iff_iff];simp;omega
  unfold Sort.insInner
  rw[e]
  split
  ·have g:=Sort.swp_get d hj (show j < d.size by omega)
   refine zacj a j _ (by rw[Sort.swp_size];omega) (fun k hk=>?_)
   rw[g,g,if_neg (by omega),if_neg (by omega),if_pos rfl]
   exact h k (by omega)
  ·rfl
theorem z8a (a b:Nat):∀ (n i:Nat) (d:Array Power),b - i=n→b≤d.size→(∀ k m,k < m→i≤m→m < b→d[k]!.V < d[m]!.V)→Sort.insOuter ltN a b i d=Sort.insOuter ltL a b i d
 | 0,i,d,hn,_,_=>by
  rw[Sort.insOuter,if_neg (by omega),Sort.insOuter,if_neg (by omega)]
 | n+1,i,d,hn,hb,h=>by
  rw[Sort.insOuter,if_pos (by omega)]
  conv=>rhs;rw[Sort.insOuter,if_pos (show i < b by omega)]
  rw[zacj a i d (by omega) (fun k hk=>h k i hk (Nat.le_refl _) (by omega))]
  obtain ⟨h1,h2,h3⟩:=z79 (lt:=ltL) a i d (by omega)
  refine z8a a b n (i+1) _ (by omega) (by rw[h1];exact hb) (fun k m hk hm hmb=>?_)
  rw[h2 m (by omega)]
  by_cases hki:k≤i
  ·obtain ⟨q,q1,q2⟩:=h3 k hki
   rw[q2]
   exact h q m (by omega) (by omega) hmb
  ·rw[h2 k (by omega)]
   exact h k m hk (by omega) hmb
theorem zahb {lt:Power→Power→Bool} (hs:Sort.SWO lt) (l:List Power):((Sort.insertionSort lt l.toArray 0 l.length).toList).Perm l∧((Sort.insertionSort lt l.toArray 0 l.length).toList).Pairwise (fun a b=>lt b a=false):=by
 obtain ⟨⟨h1,h2,h3⟩,h4⟩:=Sort.insertionSort_holds hs l.toArray 0 l.length (by omega) (by simp)
 obtain ⟨r,hr⟩:∃ r,r=Sort.insertionSort lt l.toArray 0 l.length:=⟨_,rfl⟩
 rw[← hr] at h1 h2 h3 h4 ⊢
 have hsz:r.size=l.length:=by rw[h1];simp
 refine ⟨?_,?_⟩
 ·have e1:(r.extract 0 l.length).toList=r.toList:=by rw[← hsz];simp
  have e2:(l.toArray.extract 0 l.length).toList=l:=by simp
  rwa [e1,e2] at h3
 ·rw[List.pairwise_iff_getElem]
  intro i j hi hj hij
  have:=h4 i j (by omega) hij (by simpa[hsz] using hj)
  rw[Array.length_toList] at hi hj
  rwa [getElem!_pos r j hj,getElem!_pos r i hi] at this
theorem z30:∀ {l m:List Power},l.Pairwise (fun a b=>a.V < b.V)→m.Pairwise (fun a b=>a.V < b.V)→(∀ p,p∈l↔p∈m)→l=m
 | [],[],_,_,_=>rfl
 | [],b::m,_,_,h=>by have:=(h b).2 (List.mem_cons_self ..);cases this
 | a::l,[],_,_,h=>by have:=(h a).1 (List.mem_cons_self ..);cases this
 | a::l,b::m,hl,hm,h=>by
  rw[List.pairwise_cons] at hl hm
  have hab:a=b:=by
   rcases List.mem_cons.1 ((h a).1 (List.mem_cons_self ..)) with h1 | h1
   ·exact h1
   ·rcases List.mem_cons.1 ((h b).2 (List.mem_cons_self ..)) with h2 | h2
    ·exact h2.symm
    ·have k1:=hm.1 a h1
     have k2:=hl.1 b h2
     omega
  subst hab
  congr 1
  refine z30 hl.2 hm.2 fun p=>⟨fun hp=>?_,fun hp=>?_⟩
  ·rcases List.mem_cons.1 ((h p).1 (List.mem_cons_of_mem _ hp)) with h1 | h1
   ·have:=hl.1 p hp;rw[h1] at this;omega
   ·exact h1
  ·rcases List.mem_cons.1 ((h p).2 (List.mem_cons_of_mem _ hp)) with h1 | h1
   ·have:=hm.1 p hp;rw[h1] at this;omega
   ·exact h1
theorem zack {R:Power→Power→Bool} (hi:∀ a,R a a=false) (ha:∀ a b,R a b=true→R b a=false):∀ {l:List Power} {k:Nat} {p:Power},l.Pairwise (fun a b=>R a b=true)→(p∈l.take k↔p∈l∧l.countP (fun q=>R q p) < k)
 | [],k,p,_=>by simp
 | a::l,0,p,_=>by simp
 | a::l,k+1,p,h=>by
  rw[List.pairwise_cons] at h
  rw[List.take_succ_cons,List.mem_cons,List.mem_cons,zack hi ha h.2,List.countP_cons]
  by_cases hpa:p=a
  ·subst hpa
   have h0:l.countP (fun q=>R q p)=0:=by
    rw[List.countP_eq_zero]
    intro q hq
    rw[ha _ _ (h.1 q hq)];simp
   rw[h0,hi];simp
  ·simp only[hpa,false_or]
   constructor
   ·rintro ⟨h1,h2⟩
    rw[h.1 p h1]
    exact ⟨h1,by simp;omega⟩
   ·rintro ⟨h1,h2⟩
    rw[h.1 p h1] at h2
    simp at h2
    exact ⟨h1,by omega⟩
def z8b (f:Nat→Int) (v u:Nat):Bool:=decide (f u > f v)||(f u==f v&&decide ((u:Int) < v))
def z1q (f:Nat→Int) (v:Nat):Nat:=(List.range 6).countP (z8b f v)
def topF (f:Nat→Int) (v:Nat):Int:=if z1q f v < 4 then f v else 0
theorem zye (f:Nat→Int):zjn f=(List.range 6).flatMap (fun (v:Nat)=>zxc (v:Int) (f v)):=by
 unfold zjn
 rw[List.foldl_append_eq_append,List.nil_append,List.flatMap_def]
theorem mem_oneP {v n:Int} {p:Power}:p∈zxc v n↔0 < n∧p=⟨v,n⟩:=by
 unfold zxc
 by_cases h:0 < n
 ·rw[if_pos h];simp[h]
 ·rw[if_neg h];simp[h]
theorem mem_setOf {f:Nat→Int} {p:Power}:p∈zjn f↔∃ v:Nat,v < 6∧0 < f v∧p=⟨v,f v⟩:=by
 rw[zye,List.mem_flatMap]
 constructor
 ·rintro ⟨v,h1,h2⟩;exact ⟨v,List.mem_range.1 h1,mem_oneP.1 h2⟩
 ·rintro ⟨v,h1,h2⟩;exact ⟨v,List.mem_range.2 h1,mem_oneP.2 h2⟩
theorem zte (f:Nat→Int):(zjn f).Pairwise (fun a b=>a.V < b.V):=by
 rw[zye,List.pairwise_flatMap]
 refine ⟨fun v _=>?_,?_⟩
 ·unfold zxc;split<;>simp
 ·refine List.Pairwise.imp ?_ (List.pairwise_lt_range (n:=6))
  intro u v huv x hx y hy
  rw[(mem_oneP.1 hx).2,(mem_oneP.1 hy).2]
  show (u:Int) < v
  omega
theorem z31 {p:Power→Bool} {q:Nat→Bool} {g:Nat→List Power}:∀ {l:List Nat},(∀ u,u∈l→(g u).countP p=if q u=true then 1 else 0)→(l.flatMap g).countP p=l.countP q
 | [],_=>rfl
 | u::l,h=>by
  rw[List.flatMap_cons,List.countP_append,h u (List.mem_cons_self ..),z31 fun x hx=>h x (List.mem_cons_of_mem _ hx),List.countP_cons,Nat.add_comm]
theorem z1r {f:Nat→Int} {v:Nat} (hv:0 < f v):(zjn f).countP (fun q=>ltL q ⟨v,f v⟩)=z1q f v:=by
 rw[zye]
 refine z31 fun u _=>?_
 unfold zxc
 by_cases hu:0 < f u
 ·rw[if_pos hu,List.countP_singleton]
  have e:ltL ⟨u,f u⟩ ⟨v,f v⟩=z8b f v u:=rfl
  rw[e]
 ·rw[if_neg hu,List.countP_nil]
  have e:z8b f v u=false:=by
   unfold z8b
   simp only[Bool.or_eq_false_iff,Bool.and_eq_false_iff,yy8,beq_eq_false_iff_ne]
   omega
  rw[e];simp
theorem zakk {f:Nat→Int} (hf:∀ v,0≤f v):∃ l1,z0h ltN (zjn f)=some l1∧l1.length≤6∧z0h ltV (l1.take 4)=some (zjn (topF f)):=by
 have h6:=z1d f
 have hs:=zte f
 have e1:Sort.insertionSort ltN (zjn f).toArray 0 (zjn f).length=Sort.insertionSort ltL (zjn f).toArray 0 (zjn f).length:=by
  unfold Sort.insertionSort
  refine z8a 0 _ _ 1 _ rfl (by simp) (fun k m hkm h1 hm=>?_)
  rw[List.pairwise_iff_getElem] at hs
  have:=hs k m (by omega) hm hkm
  rwa [getElem!_pos _ m (by simpa using hm),getElem!_pos _ k (by simp;omega)]
 obtain ⟨p1,p2⟩:=zahb swo_ltL (zjn f)
 obtain ⟨l1,hl1⟩:∃ l1,l1=(Sort.insertionSort ltL (zjn f).toArray 0 (zjn f).length).toList:=⟨_,rfl⟩
 rw[← hl1] at p1 p2
 have hlen:l1.length≤6:=by rw[p1.length_eq];exact h6
 have hnd:(zjn f).Pairwise (fun a b=>a.V≠b.V):=hs.imp fun h=>by omega
 have hnd1:l1.Pairwise (fun a b=>a.V≠b.V):=(p1.pairwise_iff (fun h=>Ne.symm h)).2 hnd
 have hL:l1.Pairwise (fun a b=>ltL a b=true):=by
  refine List.Pairwise.imp₂ (R:=fun a b=>a.V≠b.V) (S:=fun a b=>ltL b a=false) ?_ hnd1 p2
  intro a b h1 h2
  rw[z6c] at h2
  rw[zaap];omega
 refine ⟨l1,?_,hlen,?_⟩
 ·unfold z0h
  rw[if_pos (by omega),e1,hl1]
 ·obtain ⟨q1,q2⟩:=zahb zafu (l1.take 4)
  have h4:(l1.take 4).length≤12:=by rw[List.length_take];omega
  unfold z0h
  rw[if_pos h4]
  congr 1
  obtain ⟨l2,hl2⟩:∃ l2,l2=(Sort.insertionSort ltV (l1.take 4).toArray 0 (l1.take 4).length).toList:=⟨_,rfl⟩
  rw[← hl2] at q1 q2 ⊢
  have hnd2:l2.Pairwise (fun a b=>a.V≠b.V):=(q1.pairwise_iff (fun h=>Ne.symm h)).2 (hnd1.sublist (List.take_sublist _ _))
  refine z30 ?_ (zte _) ?_
  ·refine List.Pairwise.imp₂ (R:=fun a b=>a.V≠b.V) (S:=fun a b=>ltV b a=false) ?_ hnd2 q2
   intro a b h1 h2
   unfold ltV at h2
   rw[yy8] at h2
   omega
  ·intro p
   rw[q1.mem_iff,zack swo_ltL.irrefl (fun a b h=>swo_ltL.asymmA h) hL,p1.mem_iff,p1.countP_eq,mem_setOf,mem_setOf]
   constructor
   ·rintro ⟨⟨v,hv,hp,rfl⟩,hc⟩
    rw[z1r hp] at hc
    have e:topF f v=f v:=by unfold topF;rw[if_pos hc]
    exact ⟨v,hv,by rw[e];exact hp,by rw[e]⟩
   ·rintro ⟨v,hv,hp,rfl⟩
    have hc:z1q f v < 4:=by
     unfold topF at hp
     by_cases h:z1q f v < 4
     ·exact h
     ·rw[if_neg h] at hp;omega
    have e:topF f v=f v:=by unfold topF;rw[if_pos hc]
    rw[e] at hp ⊢
    exact ⟨⟨v,hv,hp,rfl⟩,by rw[z1r hp];exact hc⟩
def nvF (s:Stake) (v:Nat):Int:=if s.Validators.Jailed.get v=true then 0 else s.Validators.Tokens.get v / 100
def setS (s:Stake):List Power:=zjn (topF (nvF s))
theorem zat9 {s:Stake} (hg:GoodS s) {v:Nat} (hv:v < 6):0≤nvF s v∧nvF s v≤1125899906842624:=by
 have h:=(hg.at (v:=v) (by omega)).1.1
 unfold inA at h
 unfold nvF
 split<;>omega
def cutF (f:Nat→Int) (v:Nat):Int:=if v < 6 then f v else 0
theorem zahc (f:Nat→Int):zjn (cutF f)=zjn f:=z1g fun v hv=>by unfold cutF;rw[if_pos hv]
theorem zakl (f:Nat→Int) {v:Nat} (hv:v < 6):topF (cutF f) v=topF f v:=by
 have e:∀ u,u < 6→cutF f u=f u:=fun u hu=>by unfold cutF;rw[if_pos hu]
 have e2:z1q (cutF f) v=z1q f v:=by
  unfold z1q
  refine List.countP_congr fun u hu=>?_
  unfold z8b
  rw[e u (List.mem_range.1 hu),e v hv]
 unfold topF
 rw[e2,e v hv]
theorem zapf {x:Int} (h:inA x):i64.wrap (Int.tdiv x 100)=x / 100:=by
 unfold inA at h
 rw[Int.tdiv_eq_ediv_of_nonneg h.1,zj (by omega) (by omega)]
theorem zaua {s:Stake} (hg:GoodS s):zsw s=some (setS s):=by
 have key:znc (vsA s) 0 []=some (zjn (nvF s)):=by
  rw[znc]
  refine zjf (F:=fun s:(A6 zn)×Int×(List Power)=>(zhk s.1 s.2.1 s.2.2).run) (List.range 6) 0
   (fun i t=>(vsA s,(i:Int),t)) (fun i t=>t.length≤i) (fun t (v:Nat)=>t++zxc v (nvF s v)) (fun t=>t) ?_ ?_ [] (by simp)
  ·intro t _
   simp only[zhk,List.length_range];rw[Tr.rf (by rfl),Tr.rl]
  ·intro i t hi ht
   rw[List.length_range] at hi
   rw[ztm hi]
   have h1:=z5v i (nvF s i)
   have h2:=(hg.at (v:=i) (by omega)).1.1
   refine ⟨?_,by rw[yy6];omega⟩
   simp only[zhk]
   rw[zapc,zapb,zapf h2,Tr.rt (by simp;omega),Tr.rg (by omega),Tr.rg (by omega)]
   unfold zxc
   by_cases hj:s.Validators.Jailed.get i=true
   ·have e:nvF s i=0:=by unfold nvF;rw[if_pos hj]
    rw[Tr.rf (by rw[hj];rfl),Tr.rl,e,if_neg (by omega),List.append_nil,zv (by omega)]
   ·have e:nvF s i=s.Validators.Tokens.get i / 100:=by unfold nvF;rw[if_neg hj]
    rw[e]
    by_cases hp:0 < s.Validators.Tokens.get i / 100
    ·rw[if_pos hp,Tr.rt (by simp only[yy7,Bool.not_eq_true',decide_eq_true_eq];exact ⟨by simpa using hj,hp⟩),Tr.rg (by simp only[zbd,yy5];omega),Tr.rl,zv (by omega)]
    ·rw[if_neg hp,Tr.rf (by simp only[Bool.and_eq_false_iff,yy8];exact .inr hp),Tr.rl,zv (by omega),List.append_nil]
 have hc:∀ v,0≤cutF (nvF s) v:=by
  intro v
  unfold cutF
  split
  ·rename_i h;exact (zat9 hg h).1
  ·omega
 obtain ⟨l1,h1,h2,h3⟩:=zakk hc
 rw[zahc] at h1
 rw[z1g (fun v hv=>zakl (nvF s) hv)] at h3
 rw[zsw,zvq]
 refine (Tr.rb key).trans ?_
 rw[Tr.rb (show zmw (zjn (nvF s))=some l1 from h1),Tr.rg (by rw[zbd];split<;>omega)]
 have e:(l1.drop 0).take ((if 4 < ((l1.length:Nat):Int) then 4 else ((l1.length:Nat):Int)).toNat - 0)=l1.take 4:=by
  rw[List.drop_zero]
  by_cases h:4 < ((l1.length:Nat):Int)
  ·rw[if_pos h];rfl
  ·rw[if_neg h,List.take_of_length_le (by omega),List.take_of_length_le (by omega)]
 rw[e,Tr.rb (show zwg (l1.take 4)=some (zjn (topF (nvF s))) from h3),Tr.rl]
 rfl
def zaub:Validators:=⟨⟨0,0,0,0,0,0⟩,⟨0,0,0,0,0,0⟩,⟨0,0,0,0,0,0⟩,⟨false,false,false,false,false,false⟩,⟨false,false,false,false,false,false⟩⟩
def newS:Stake:=⟨newB,zaub,⟨⟨0,0,0,0,0,0⟩,⟨0,0,0,0,0,0⟩,⟨0,0,0,0,0,0⟩,⟨0,0,0,0,0,0⟩⟩,[],1⟩
theorem zahd:GoodS newS:=by decide
theorem zaar:zso=some newS:=by
 rw[zso,zvm,Tr.rb zad3,Tr.rl];rfl
theorem z8c (s:Stake) (v k:Int):(zbf s v k).1.Waits=s.Waits:=by
 unfold zbf
 repeat' split
 all_goals rfl
def fP (a:List Power) (v:Nat):Int:=zdr a v
theorem zakm {a b:List Power} (ha:a.length≤9223372036854775807) (hb:b.length≤9223372036854775807):zd0 a b=some (zur (fP a) (fP b)):=by
 have key:zln a b 0 []=some (zur (fP a) (fP b)):=by
  rw[zln]
  refine zjf (F:=fun s:(List Power)×(List Power)×Int×(List Power)=>(zga s.1 s.2.1 s.2.2.1 s.2.2.2).run) (List.range 6) 0
   (fun i t=>(a,b,(i:Int),t)) (fun i t=>t.length≤i) (fun t (v:Nat)=>t++z1e v (fP b v) (fP a v)) (fun t=>t) ?_ ?_ [] (by simp)
  ·intro t _
   simp only[zga,List.length_range];rw[Tr.rf (by rfl),Tr.rl]
  ·intro i t hi ht
   rw[List.length_range] at hi
   rw[ztm hi]
   have h1:=zre i (fP b i) (fP a i)
   refine ⟨?_,by rw[yy6];omega⟩
   simp only[zga]
   rw[Tr.rt (by simp;omega),Tr.rb (zaaf hb),Tr.rb (zaaf ha)]
   unfold fP z1e
   by_cases hp:zdr b i≠zdr a i
   ·rw[if_pos hp,Tr.rt (by simpa using hp),Tr.rg (by simp only[zbd,yy5];omega),Tr.rl,zv (by omega)]
   ·rw[if_neg hp,Tr.rf (by simpa using hp),Tr.rl,zv (by omega),List.append_nil]
 rw[zd0,zsv,Tr.rb key,Tr.rl]
def allP (l:List Power):Int:=l.foldl (fun t p=>i64.wrap (t+p.N)) 0
theorem zami {l:List Power} (hl:l.length≤9223372036854775807):zk4 l=some (allP l):=by
 have key:znb 0 l l.length 0=some (allP l):=by
  rw[znb]
  refine zjf (F:=fun s:Int×(List Power)×Int×Int=>(zhj s.1 s.2.1 s.2.2.1 s.2.2.2).run) l default (fun i t=>(t,l,(l.length:Int),(i:Int))) (fun _ _=>True) (fun t p=>i64.wrap (t+p.N)) (fun t=>t) ?_ ?_ 0 trivial
  ·intro t _
   simp only[zhj];rw[Tr.rf (by simp),Tr.rl]
  ·intro i t hi _
   refine ⟨?_,trivial⟩
   simp only[zhj]
   rw[yy4,Tr.rt (by simpa using hi),Tr.rg ⟨by omega,by rw[zbd];omega⟩,Tr.rl,zv (by omega)]
 rw[zk4,zvp,Tr.rb key,Tr.rl]
theorem zqc {α:Type} (a:A6 α) {i j:Int} (y:α) (hi:0≤i∧i < 6) (hj:0≤j∧j < 6):(a.set i y).get j=if j=i then y else a.get j:=by
 obtain rfl | rfl | rfl | rfl | rfl | rfl:j=0∨j=1∨j=2∨j=3∨j=4∨j=5:=by omega
 all_goals
  obtain rfl | rfl | rfl | rfl | rfl | rfl:i=0∨i=1∨i=2∨i=3∨i=4∨i=5:=by omega
  all_goals rfl
theorem zfe {α:Type} (a:A6 α) {i:Int} (y:α) (hi:0≤i∧i < 6):(a.set i y).get i=y:=by rw[zqc a y hi hi,if_pos rfl]
theorem ze2 {α:Type} (a:A6 α) {i j:Int} (y:α) (hi:0≤i∧i < 6) (hj:0≤j∧j < 6) (h:j≠i):(a.set i y).get j=a.get j:=by rw[zqc a y hi hj,if_neg h]
theorem zz1 (a:A6 Int) {i:Int} (y:Int) (hi:0≤i∧i < 6):sum6 (a.set i y)=sum6 a - a.get i+y:=by
 obtain rfl | rfl | rfl | rfl | rfl | rfl:i=0∨i=1∨i=2∨i=3∨i=4∨i=5:=by omega
 ·show y+a.x1+a.x2+a.x3+a.x4+a.x5=a.x0+a.x1+a.x2+a.x3+a.x4+a.x5 - a.x0+y;omega
 ·show a.x0+y+a.x2+a.x3+a.x4+a.x5=a.x0+a.x1+a.x2+a.x3+a.x4+a.x5 - a.x1+y;omega
 ·show a.x0+a.x1+y+a.x3+a.x4+a.x5=a.x0+a.x1+a.x2+a.x3+a.x4+a.x5 - a.x2+y;omega
 ·show a.x0+a.x1+a.x2+y+a.x4+a.x5=a.x0+a.x1+a.x2+a.x3+a.x4+a.x5 - a.x3+y;omega
 ·show a.x0+a.x1+a.x2+a.x3+y+a.x5=a.x0+a.x1+a.x2+a.x3+a.x4+a.x5 - a.x4+y;omega
 ·show a.x0+a.x1+a.x2+a.x3+a.x4+y=a.x0+a.x1+a.x2+a.x3+a.x4+a.x5 - a.x5+y;omega
theorem z8d (a:A4 (A6 Int)) (d v y:Int):A46.set a d v y=⟨if d=0 then a.x0.set v y else a.x0,if d=1 then a.x1.set v y else a.x1,if d=2 then a.x2.set v y else a.x2,if d=3 then a.x3.set v y else a.x3⟩:=by
 unfold A46.set A6.set
 congr 1
 ·by_cases h:d=0<;>simp[h]
 ·by_cases h:d=1<;>simp[h]
 ·by_cases h:d=2<;>simp[h]
 ·by_cases h:d=3<;>simp[h]
theorem zrj (a:A4 (A6 Int)) {d v d' v':Int} (y:Int) (hd:0≤d∧d < 4) (hv:0≤v∧v < 6) (hd':0≤d'∧d' < 4) (hv':0≤v'∧v' < 6):A46.get (A46.set a d v y) d' v'=if d'=d∧v'=v then y else A46.get a d' v':=by
 have key:∀ (p:Prop) [Decidable p] (r:A6 Int),(if p then r.set v y else r).get v'=if p∧v'=v then y else r.get v':=by
  intro p _ r
  by_cases h:p
  ·rw[if_pos h,zqc r y hv hv'];simp[h]
  ·rw[if_neg h,if_neg (fun x=>h x.1)]
 rw[z8d]
 obtain rfl | rfl | rfl | rfl:d'=0∨d'=1∨d'=2∨d'=3:=by omega
 ·refine (key (d=0) a.x0).trans ?_
  simp only[eq_comm (a:=d)];rfl
 ·refine (key (d=1) a.x1).trans ?_
  simp only[eq_comm (a:=d)];rfl
 ·refine (key (d=2) a.x2).trans ?_
  simp only[eq_comm (a:=d)];rfl
 ·refine (key (d=3) a.x3).trans ?_
  simp only[eq_comm (a:=d)];rfl
theorem zrk {s t:Stake} {v:Int} (hT:t.Validators.Tokens.get v=s.Validators.Tokens.get v) (hS:t.Validators.Shares.get v=s.Validators.Shares.get v) (hL:t.Validators.Lost.get v=s.Validators.Lost.get v)
  (hJ:t.Validators.Jailed.get v=s.Validators.Jailed.get v) (hD:t.Validators.Dead.get v=s.Validators.Dead.get v) (hs:∀ d:Int,0≤d→d < 4→A46.get t.Shares d v=A46.get s.Shares d v) (h:z55 s v):z55 t v:=by
 obtain ⟨h1,h2,h3⟩:=h
 unfold z55 z25 shr
 rw[hT,hS,hL,hJ,hD,hs 0 (by omega) (by omega),hs 1 (by omega) (by omega),hs 2 (by omega) (by omega),hs 3 (by omega) (by omega)]
 exact ⟨h1,fun d hd=>by rw[hs d (by omega) (by omega)];exact h2 d hd,h3⟩
theorem z1s {n n':Int}:∀ {l:List Wait} {p p':Int},zf2 n p l→n≤n'→p'≤p→zf2 n' p' l
 | [],_,_,_,_,_=>trivial
 | w::l,p,p',h,hn,hp=>by
  obtain ⟨h1,h2,h3⟩:=h.1
  exact ⟨⟨by omega,by omega,h3⟩,z1s h.2 hn (Int.le_refl _)⟩
theorem z1t {n:Int} {w:Wait} (hw:w.Number=n) (h:0≤w.D∧w.D < 4∧0≤w.V∧w.V < 6∧inA w.Amount∧0≤w.Height∧0≤w.Due):∀ {l:List Wait} {p:Int},p < n→zf2 n p l→zf2 (n+1) p (l++[w])
 | [],p,hp,_=>⟨⟨by omega,by omega,h⟩,trivial⟩
 | a::l,p,hp,hl=>by
  obtain ⟨h1,h2,h3⟩:=hl.1
  exact ⟨⟨h1,by omega,h3⟩,z1t hw h (by omega) hl.2⟩
theorem zts {n:Int} {f:Wait→Wait} (hf:∀ w,inA w.Amount→(f w).Number=w.Number∧(f w).D=w.D∧(f w).V=w.V∧inA (f w).Amount∧(f w).Height=w.Height∧(f w).Due=w.Due):∀ {l:List Wait} {p:Int},zf2 n p l→zf2 n p (l.map f)
 | [],_,_=>trivial
 | w::l,p,h=>by
  obtain ⟨h1,h2,h3,h4,h5,h6,h7,h8,h9⟩:=h.1
  obtain ⟨e1,e2,e3,e4,e5,e6⟩:=hf w h7
  refine ⟨⟨by rw[e1];exact h1,by rw[e1];exact h2,by rw[e2];exact h3,by rw[e2];exact h4,by rw[e3];exact h5,by rw[e3];exact h6,e4,by rw[e5];exact h8,by rw[e6];exact h9⟩,?_⟩
  rw[e1]
  exact zts hf h.2
theorem zjh {n:Int} (q:Wait→Bool):∀ {l:List Wait} {p:Int},zf2 n p l→zf2 n p (l.filter q)
 | [],_,_=>trivial
 | w::l,p,h=>by
  rw[List.filter_cons]
  split
  ·exact ⟨h.1,zjh q h.2⟩
  ·exact z1s (zjh q h.2) (Int.le_refl _) (Int.le_of_lt h.1.1)
theorem zakn (l m:List Wait):zpl (l++m)=zpl l+zpl m:=by
 induction l with
 | nil=>simp[zpl]
 | cons a l ih=>simp only[List.cons_append,zpl,ih];omega
theorem zaas (q:Wait→Bool) (l:List Wait):zpl (l.filter q)+zpl (l.filter (fun w => !q w))=zpl l:=by
 induction l with
 | nil=>rfl
 | cons a l ih =>
  rw[List.filter_cons,List.filter_cons]
  cases q a
  ·simp only[Bool.not_false,if_true,zpl];rw[if_neg (by simp)];omega
  ·simp only[Bool.not_true,if_true,zpl];rw[if_neg (by simp)];omega
theorem ztt {n:Int}:∀ {l:List Wait} {p:Int} {w:Wait},zf2 n p l→w∈l→p < w.Number∧w.Number < n∧0≤w.D∧w.D < 4∧0≤w.V∧w.V < 6∧inA w.Amount∧0≤w.Height∧0≤w.Due
 | a::l,p,w,h,hw=>by
  rcases List.mem_cons.1 hw with rfl | hw
  ·exact h.1
  ·have:=ztt h.2 hw
   exact ⟨Int.lt_trans h.1.1 this.1,this.2⟩
theorem z32 {n:Int}:∀ {l:List Wait} {p:Int} {w u:Wait},zf2 n p l→w∈l→u∈l→w.Number=u.Number→w=u
 | [],_,_,_,_,hw,_,_=>by cases hw
 | a::l,p,w,u,h,hw,hu,he=>by
  rcases List.mem_cons.1 hw with h1 | h1
  ·rcases List.mem_cons.1 hu with h2 | h2
   ·rw[h1,h2]
   ·have:=(ztt h.2 h2).1;rw[h1] at he;omega
  ·rcases List.mem_cons.1 hu with h2 | h2
   ·have:=(ztt h.2 h1).1;rw[h2] at he;omega
   ·exact z32 h.2 h1 h2 he
theorem zacl {b:Bank} {d n:Int} (h:(zp8 b d n).2=0):zho (zp8 b d n).1∧0≤n∧n≤400000∧(zp8 b d n).1.Bonded=b.Bonded+n∧(zp8 b d n).1.Waiting=b.Waiting∧(zp8 b d n).1.Burnt=b.Burnt:=by
 have k:=zag3 (b:=b) (d:=d) (n:=n)
 rcases k with ⟨k,_⟩ | ⟨_,g1,g2,_⟩
 ·exact absurd h k
 have hd:¬ (d < 0∨3 < d):=by
  intro hd
  unfold zp8 at h
  rw[if_pos hd] at h;cases h
 have e:zp8 b d n=zb3 b d 4 n:=by unfold zp8;rw[if_neg hd]
 rw[e] at h g2 ⊢
 obtain ⟨m1,m2,m3,m4,m5⟩:=z53 h
 have m6:=zace m1 d
 unfold okN at m6
 refine ⟨g2,m2,by omega,?_⟩
 rw[m5]
 obtain rfl | rfl | rfl | rfl:d=0∨d=1∨d=2∨d=3:=by omega
 all_goals simp[zjg,bkA,plA,A7.get,A7.set]
theorem zahe {s:Stake} (hg:GoodS s) {b:Bank} {d v n k:Int} (hd:0≤d∧d < 4) (hv:0≤v∧v < 6) (hb:zho b) (hb1:b.Bonded=s.Bank.Bonded+n) (hb2:b.Waiting=s.Bank.Waiting) (hb3:b.Burnt=s.Bank.Burnt)
  (hn:0≤n∧n≤400000) (hk:1≤k) (hS:s.Validators.Shares.get v+k≤1125899906842624):GoodS (addS s b d v n k):=by
 obtain ⟨g1,g2,g3,g4,g5,g6,g7⟩:=hg
 have hg:GoodS s:=⟨g1,g2,g3,g4,g5,g6,g7⟩
 have htok:=zxi hg hv
 have o2:okN s.Bank.Bonded:=g1.2.2.2.2.1
 unfold okN at o2
 refine ⟨hb,g2,fun u hu=>?_,g4,?_,?_,?_⟩
 ·have hu':0≤(u:Int)∧(u:Int) < 6:=by omega
  by_cases he:(u:Int)=v
  ·obtain ⟨⟨q1,q2,q3,q4,q5⟩,q6,q7⟩:=hg.at hv
   have hle:=z1o hg hd hv
   have r0:=hg.shr (d:=0) (by omega) hv;have r1:=hg.shr (d:=1) (by omega) hv;have r2:=hg.shr (d:=2) (by omega) hv;have r3:=hg.shr (d:=3) (by omega) hv
   unfold z25 shr at q7
   rw[he]
   have sh:∀ d':Int,0≤d'→d' < 4→A46.get (addS s b d v n k).Shares d' v=if d'=d then A46.get s.Shares d v+k else A46.get s.Shares d' v:=fun d' h0 h1=>by
    show A46.get (A46.set s.Shares d v (A46.get s.Shares d v+k)) d' v=_
    rw[zrj _ _ hd hv ⟨h0,h1⟩ hv]
    by_cases h:d'=d
    ·rw[if_pos ⟨h,rfl⟩,if_pos h]
    ·rw[if_neg (fun x=>h x.1),if_neg h]
   have eT:(addS s b d v n k).Validators.Tokens.get v=s.Validators.Tokens.get v+n:=zfe _ _ hv
   have eS:(addS s b d v n k).Validators.Shares.get v=s.Validators.Shares.get v+k:=zfe _ _ hv
   unfold inA at q1 q2
   refine ⟨⟨?_,?_,q3,?_,q5⟩,fun d' hd'=>?_,?_⟩
   ·rw[eT];unfold inA;omega
   ·rw[eS];unfold inA;omega
   ·rw[eT,eS];omega
   ·unfold shr
    rw[sh d' (by omega) (by omega)]
    split
    ·have:=hg.shr hd hv;unfold inA;omega
    ·exact q6 d' hd'
   ·unfold z25 shr
    rw[eS,sh 0 (by omega) (by omega),sh 1 (by omega) (by omega),sh 2 (by omega) (by omega),sh 3 (by omega) (by omega)]
    obtain rfl | rfl | rfl | rfl:d=0∨d=1∨d=2∨d=3:=by omega
    all_goals
     simp
     omega
  ·refine zrk (ze2 _ _ hv hu' he) (ze2 _ _ hv hu' he) rfl rfl rfl (fun d' h0 h1=>?_) (g3 u hu)
   show A46.get (A46.set s.Shares d v (A46.get s.Shares d v+k)) d' u=_
   rw[zrj _ _ hd hv ⟨h0,h1⟩ hu',if_neg (fun x=>he x.2)]
 ·show sum6 (s.Validators.Tokens.set v (s.Validators.Tokens.get v+n))=b.Bonded
  rw[zz1 _ _ hv,g5,hb1];omega
 ·show zpl s.Waits=b.Waiting
  rw[hb2];exact g6
 ·show sum6 s.Validators.Lost=b.Burnt
  rw[hb3];exact g7
theorem zaat {s:Stake} {d v n:Int} (h:(za9 s d v n).2=0):GoodS s∧(0≤d∧d < 4)∧(0≤v∧v < 6)∧s.Validators.Dead.get v≠true∧(1≤n∧n≤400000)∧¬ (s.Validators.Shares.get v≠0∧s.Validators.Tokens.get v=0)∧(zdb s v n).2=0 ∧
  s.Validators.Shares.get v+(zdb s v n).1≤1125899906842624∧1≤(zdb s v n).1∧(zp8 s.Bank d n).2=0∧za9 s d v n=(addS s (zp8 s.Bank d n).1 d v n (zdb s v n).1,0):=by
 unfold za9 at h ⊢
 by_cases h0:ze1 s d v≠0
 ·rw[if_pos h0] at h;exact absurd h h0
 ·rw[if_neg h0] at h ⊢
  obtain ⟨hg,hd,hv⟩:=zks (Decidable.not_not.1 h0)
  by_cases h1:s.Validators.Dead.get v=true
  ·rw[if_pos h1] at h;cases h
  ·rw[if_neg h1] at h ⊢
   by_cases h2:n < 1∨1125899906842624 < n
   ·rw[if_pos h2] at h;cases h
   ·rw[if_neg h2] at h ⊢
    by_cases h3:s.Validators.Shares.get v≠0∧s.Validators.Tokens.get v=0
    ·rw[if_pos h3] at h;cases h
    ·rw[if_neg h3] at h ⊢
     by_cases h4:(zdb s v n).2≠0∨1125899906842624 < s.Validators.Shares.get v+(zdb s v n).1
     ·rw[if_pos h4] at h;cases h
     ·rw[if_neg h4] at h ⊢
      by_cases h5:(zdb s v n).1 < 1
      ·rw[if_pos h5] at h;cases h
      ·rw[if_neg h5] at h ⊢
       by_cases h6:(zp8 s.Bank d n).2≠0
       ·rw[if_pos h6] at h;exact absurd h h6
       ·rw[if_neg h6]
        have hb:=zacl (Decidable.not_not.1 h6)
        exact ⟨hg,hd,hv,h1,⟨by omega,hb.2.2.1⟩,h3,by omega,by omega,by omega,Decidable.not_not.1 h6,rfl⟩
theorem z6d {s:Stake} {d v n:Int} (h:(za9 s d v n).2=0):GoodS (za9 s d v n).1:=by
 obtain ⟨hg,hd,hv,_,hn,_,_,h1,h2,h3,h4⟩:=zaat h
 obtain ⟨b1,b2,b3,b4,b5,b6⟩:=zacl h3
 rw[h4]
 exact zahe hg hd hv b1 b4 b5 b6 (by omega) h2 h1
theorem zad7 {b:Bank} {n:Int} (h:(zb3 b 4 5 n).2=0):zho (zb3 b 4 5 n).1∧0≤n∧n≤b.Bonded∧(zb3 b 4 5 n).1.Bonded=b.Bonded - n∧(zb3 b 4 5 n).1.Waiting=b.Waiting+n∧(zb3 b 4 5 n).1.Burnt=b.Burnt:=by
 obtain ⟨m1,m2,m3,m4,m5⟩:=z53 h
 refine ⟨by rw[m5];exact (zn0 (.inr (.inl ⟨rfl,rfl⟩)) m1 m2 m4).1,m2,m4,?_⟩
 rw[m5]
 simp[zjg,bkA,plA,A7.get,A7.set]
theorem zrl {s:Stake} {d v k:Int} {w:Wait} (h:(za1 s d v k w).2=0):GoodS s∧(0≤d∧d < 4)∧(0≤v∧v < 6)∧(1≤k∧k≤A46.get s.Shares d v)∧(0≤w.Height∧0≤w.Due)∧s.Waits.length < 60∧s.Next < 1125899906842624∧1≤zg7 s v k ∧
  (zb3 s.Bank 4 5 (zg7 s v k)).2=0∧za1 s d v k w=(subS s (zb3 s.Bank 4 5 (zg7 s v k)).1 d v (zg7 s v k) k w,0):=by
 unfold za1 at h ⊢
 by_cases h0:ze1 s d v≠0
 ·rw[if_pos h0] at h;exact absurd h h0
 ·rw[if_neg h0] at h ⊢
  obtain ⟨hg,hd,hv⟩:=zks (Decidable.not_not.1 h0)
  by_cases h1:k < 1∨1125899906842624 < k∨w.Height < 0∨w.Due < 0
  ·rw[if_pos h1] at h;cases h
  ·rw[if_neg h1] at h ⊢
   by_cases h2:A46.get s.Shares d v < k
   ·rw[if_pos h2] at h;cases h
   ·rw[if_neg h2] at h ⊢
    by_cases h3:60≤s.Waits.length∨1125899906842624≤s.Next
    ·rw[if_pos h3] at h;cases h
    ·rw[if_neg h3] at h ⊢
     by_cases h4:zg7 s v k < 1
     ·rw[if_pos h4] at h;cases h
     ·rw[if_neg h4] at h ⊢
      by_cases h6:(zb3 s.Bank 4 5 (zg7 s v k)).2≠0
      ·rw[if_pos h6] at h;exact absurd h h6
      ·rw[if_neg h6]
       exact ⟨hg,hd,hv,by omega,by omega,by omega,by omega,by omega,Decidable.not_not.1 h6,rfl⟩
theorem zako {s:Stake} (hg:GoodS s) {v k:Int} (hv:0≤v∧v < 6) (h0:0≤k) (h1:k≤s.Validators.Shares.get v):zg7 s v k≤s.Validators.Tokens.get v:=by
 obtain ⟨⟨q1,q2,q3,q4,q5⟩,q6,q7⟩:=hg.at hv
 unfold zg7 zkc
 by_cases h:k < 0∨s.Validators.Tokens.get v < 0∨s.Validators.Shares.get v < 1
 ·rw[if_pos h];exact q1.1
 ·rw[if_neg h]
  have h2:k*s.Validators.Tokens.get v / s.Validators.Shares.get v≤s.Validators.Tokens.get v:=by
   have h3:k*s.Validators.Tokens.get v≤s.Validators.Shares.get v*s.Validators.Tokens.get v:=Int.mul_le_mul_of_nonneg_right h1 q1.1
   have h4:=Int.ediv_le_ediv (c:=s.Validators.Shares.get v) (by omega) h3
   rwa [Int.mul_ediv_cancel_left _ (by omega)] at h4
  split
  ·exact q1.1
  ·exact h2
theorem zad8 {s:Stake} (hg:GoodS s) {v k:Int} (hv:0≤v∧v < 6) (h0:1≤k) (h:k=s.Validators.Shares.get v):zg7 s v k=s.Validators.Tokens.get v:=z76 h0 (hg.at hv).1.1 h
theorem z1u {s:Stake} {d v k:Int} {w:Wait} (h:(za1 s d v k w).2=0):GoodS (za1 s d v k w).1:=by
 obtain ⟨hg,hd,hv,hk,hw,h60,hN,hn,hm,e⟩:=zrl h
 rw[e]
 obtain ⟨b1,b2,b3,b4,b5,b6⟩:=zad7 hm
 have hle:=z1o hg hd hv
 have hwl:=zako hg hv (by omega) (Int.le_trans hk.2 hle)
 have hall:k=s.Validators.Shares.get v→zg7 s v k=s.Validators.Tokens.get v:=fun h=>zad8 hg hv hk.1 h
 obtain ⟨b,hb⟩:∃ b,b=(zb3 s.Bank 4 5 (zg7 s v k)).1:=⟨_,rfl⟩
 obtain ⟨n,hnn⟩:∃ n,n=zg7 s v k:=⟨_,rfl⟩
 rw[← hb] at b1 b4 b5 b6 ⊢
 rw[← hnn] at b4 b5 ⊢
 rw[← hnn] at hn b2 b3 hwl hall
 obtain ⟨g1,g2,g3,g4,g5,g6,g7⟩:=id hg
 have o2:okN s.Bank.Bonded:=g1.2.2.2.2.1
 unfold okN at o2
 refine ⟨b1,⟨?_,?_,?_⟩,fun u hu=>?_,?_,?_,?_,?_⟩
 ·show 1≤s.Next+1;omega
 ·show s.Next+1≤_;omega
 ·show (s.Waits++[outW s d v n w]).length≤60
  rw[yy6];simp;omega
 ·have hu':0≤(u:Int)∧(u:Int) < 6:=by omega
  by_cases he:(u:Int)=v
  ·obtain ⟨⟨q1,q2,q3,q4,q5⟩,q6,q7⟩:=hg.at hv
   have r0:=hg.shr (d:=0) (by omega) hv;have r1:=hg.shr (d:=1) (by omega) hv;have r2:=hg.shr (d:=2) (by omega) hv;have r3:=hg.shr (d:=3) (by omega) hv
   unfold z25 shr at q7
   rw[he]
   have sh:∀ d':Int,0≤d'→d' < 4→A46.get (subS s b d v n k w).Shares d' v=if d'=d then A46.get s.Shares d v - k else A46.get s.Shares d' v:=fun d' h0 h1=>by
    show A46.get (A46.set s.Shares d v (A46.get s.Shares d v - k)) d' v=_
    rw[zrj _ _ hd hv ⟨h0,h1⟩ hv]
    by_cases h:d'=d
    ·rw[if_pos ⟨h,rfl⟩,if_pos h]
    ·rw[if_neg (fun x=>h x.1),if_neg h]
   have eT:(subS s b d v n k w).Validators.Tokens.get v=s.Validators.Tokens.get v - n:=zfe _ _ hv
   have eS:(subS s b d v n k w).Validators.Shares.get v=s.Validators.Shares.get v - k:=zfe _ _ hv
   unfold inA at q1 q2
   refine ⟨⟨?_,?_,q3,?_,q5⟩,fun d' hd'=>?_,?_⟩
   ·rw[eT];unfold inA;omega
   ·rw[eS];unfold inA;omega
   ·rw[eT,eS];omega
   ·unfold shr
    rw[sh d' (by omega) (by omega)]
    split
    ·have:=hg.shr hd hv;unfold inA;omega
    ·exact q6 d' hd'
   ·unfold z25 shr
    rw[eS,sh 0 (by omega) (by omega),sh 1 (by omega) (by omega),sh 2 (by omega) (by omega),sh 3 (by omega) (by omega)]
    obtain rfl | rfl | rfl | rfl:d=0∨d=1∨d=2∨d=3:=by omega
    all_goals
     simp
     omega
  ·refine zrk (ze2 _ _ hv hu' he) (ze2 _ _ hv hu' he) rfl rfl rfl (fun d' h0 h1=>?_) (g3 u hu)
   show A46.get (A46.set s.Shares d v (A46.get s.Shares d v - k)) d' u=_
   rw[zrj _ _ hd hv ⟨h0,h1⟩ hu',if_neg (fun x=>he x.2)]
 ·exact z1t (w:=outW s d v n w) rfl ⟨hd.1,hd.2,hv.1,hv.2,⟨by show 0≤n;omega,by show n≤1125899906842624;omega⟩,hw.1,hw.2⟩ (show (0:Int) < s.Next by have:=g2.1;omega) g4
 ·show sum6 (s.Validators.Tokens.set v (s.Validators.Tokens.get v - n))=b.Bonded
  rw[zz1 _ _ hv,g5,b4];omega
 ·show zpl (s.Waits++[outW s d v n w])=b.Waiting
  rw[zakn,g6,b5]
  show s.Bank.Waiting+(n+0)=_
  omega
 ·show sum6 s.Validators.Lost=b.Burnt
  rw[b6];exact g7
theorem z6e {f:Wait→Wait} (hf:∀ w,(f w).Amount=w.Amount):∀ l:List Wait,zpl (l.map f)=zpl l
 | []=>rfl
 | w::l=>by simp only[List.map_cons,zpl,hf,z6e hf l]
theorem zy0 {s:Stake} {c h:Int} (hg:GoodS s):GoodS (zmo s c h):=by
 obtain ⟨g1,g2,g3,g4,g5,g6,g7⟩:=hg
 refine ⟨g1,⟨g2.1,g2.2.1,?_⟩,g3,?_,g5,?_,g7⟩
 ·show (s.Waits.map (z59 c h)).length≤60
  rw[List.length_map];exact g2.2.2
 ·exact zts (f:=z59 c h) (fun w hw=>⟨rfl,rfl,rfl,hw,rfl,rfl⟩) g4
 ·show zpl (s.Waits.map (z59 c h))=_
  rw[z6e (f:=z59 c h) (fun _=>rfl)];exact g6
theorem zacm {s:Stake} {v what:Int} (h:(zbf s v what).2=0):GoodS s∧(0≤v∧v < 6)∧¬ (what=0∧s.Validators.Jailed.get v=true)∧¬ (0 < what∧s.Validators.Dead.get v=true)∧¬ (what=1∧s.Validators.Jailed.get v=false) ∧
  zbf s v what=(zyc s v (what != 1) (what==2),0):=by
 unfold zbf at h ⊢
 by_cases h0:ze1 s 0 v≠0
 ·rw[if_pos h0] at h;exact absurd h h0
 ·rw[if_neg h0] at h ⊢
  obtain ⟨hg,hd,hv⟩:=zks (Decidable.not_not.1 h0)
  by_cases h1:what=0∧s.Validators.Jailed.get v=true
  ·rw[if_pos h1] at h;cases h
  ·rw[if_neg h1] at h ⊢
   by_cases h2:0 < what∧s.Validators.Dead.get v=true
   ·rw[if_pos h2] at h;cases h
   ·rw[if_neg h2] at h ⊢
    by_cases h3:what=1∧s.Validators.Jailed.get v=false
    ·rw[if_pos h3] at h;cases h
    ·rw[if_neg h3]
     exact ⟨hg,hv,h1,h2,h3,rfl⟩
theorem zahf {s:Stake} {v what:Int} (h:(zbf s v what).2≠0):(zbf s v what).1=s:=by
 unfold zbf at h ⊢
 repeat' split
 all_goals first | rfl | skip
 rename_i h0 h1 h2 h3
 rw[if_neg h0,if_neg h1,if_neg h2,if_neg h3] at h
 exact absurd rfl h
theorem zad9 {s:Stake} {v what:Int} (hw:what=0∨what=1∨what=2) (h:(zbf s v what).2=0):GoodS (zbf s v what).1:=by
 obtain ⟨hg,hv,h1,h2,h3,e⟩:=zacm h
 rw[e]
 obtain ⟨g1,g2,g3,g4,g5,g6,g7⟩:=id hg
 refine ⟨g1,g2,fun u hu=>?_,g4,g5,g6,g7⟩
 have hu':0≤(u:Int)∧(u:Int) < 6:=by omega
 by_cases he:(u:Int)=v
 ·obtain ⟨⟨q1,q2,q3,q4,q5⟩,q6,q7⟩:=hg.at hv
  rw[he]
  have eJ:(zyc s v (what != 1) (what==2)).Validators.Jailed.get v=(what != 1):=zfe _ _ hv
  have eD:(zyc s v (what != 1) (what==2)).Validators.Dead.get v=(what==2):=zfe _ _ hv
  refine ⟨⟨q1,q2,q3,q4,?_⟩,q6,q7⟩
  rw[eJ,eD]
  rcases hw with rfl | rfl | rfl<;>simp
 ·exact zrk (s:=s) rfl rfl rfl (ze2 _ _ hv hu' he) (ze2 _ _ hv hu' he) (fun _ _ _=>rfl) (g3 u hu)
theorem z1v (time:Int):∀ (l:List Wait) (b:Bank) (L:List Wait) (P:List Int),l.foldl (payF time) (b,L,P)=((l.filter (z27 time)).foldl (fun b w=>(z52 b w.D w.Amount).1) b,L++l.filter (fun w => !z27 time w),P++(l.filter (z27 time)).map (·.Number))
 | [],b,L,P=>by simp
 | w::l,b,L,P=>by
  rw[List.foldl_cons,List.filter_cons,List.filter_cons]
  by_cases h:z27 time w=true
  ·have e:payF time (b,L,P) w=((z52 b w.D w.Amount).1,L,P++[w.Number]):=by unfold payF;rw[if_pos h]
   rw[e,z1v time l,if_pos h,if_neg (by simp[h]),List.foldl_cons,List.map_cons,List.append_assoc]
   rfl
  ·have e:payF time (b,L,P) w=(b,L++[w],P):=by unfold payF;rw[if_neg h]
   rw[e,z1v time l,if_neg h,if_pos (by simpa using h),List.append_assoc]
   rfl
def zaau (s:Stake) (time:Int):Bank:=(s.Waits.filter (z27 time)).foldl (fun b w=>(z52 b w.D w.Amount).1) s.Bank
theorem zaav {s:Stake} (hg:GoodS s) (time:Int):z3z s time=({ s with Bank:=zaau s time,Waits:=s.Waits.filter (fun w => !z27 time w) },(s.Waits.filter (z27 time)).map (·.Number),0):=by
 unfold z3z zaau
 rw[if_neg (by simpa using hg),z1v]
 simp only[List.nil_append]
theorem z8e:∀ {l:List Wait} {b:Bank} {n p:Int},zf2 n p l→zho b→zpl l≤b.Waiting →
  zho (l.foldl (fun b w=>(z52 b w.D w.Amount).1) b)∧(l.foldl (fun b w=>(z52 b w.D w.Amount).1) b).Waiting=b.Waiting - zpl l∧(l.foldl (fun b w=>(z52 b w.D w.Amount).1) b).Bonded=b.Bonded∧(l.foldl (fun b w=>(z52 b w.D w.Amount).1) b).Burnt=b.Burnt
 | [],b,n,p,_,hb,_=>⟨hb,by show b.Waiting=b.Waiting - 0;omega,rfl,rfl⟩
 | w::l,b,n,p,hw,hb,hs=>by
  obtain ⟨_,_,d0,d1,_,_,ha,_,_⟩:=hw.1
  have hn:=zqa hw.2
  simp only[zpl] at hs
  obtain ⟨_,p2,p3,p4,p5⟩:=zag7 hb ⟨d0,d1⟩ ha (by omega)
  obtain ⟨k1,k2,k3,k4⟩:=z8e hw.2 p2 (by rw[p3];omega)
  rw[List.foldl_cons]
  refine ⟨k1,?_,k3.trans p4,k4.trans p5⟩
  rw[k2,p3]
  simp only[zpl];omega
theorem zakp {s:Stake} (hg:GoodS s) (time:Int):zho (zaau s time)∧(zaau s time).Waiting=zpl (s.Waits.filter (fun w => !z27 time w))∧(zaau s time).Bonded=s.Bank.Bonded∧(zaau s time).Burnt=s.Bank.Burnt:=by
 have h1:=zaas (z27 time) s.Waits
 have h2:=zqa (zjh (fun w => !z27 time w) hg.2.2.2.1)
 have h3:=hg.2.2.2.2.2.1
 obtain ⟨k1,k2,k3,k4⟩:=z8e (zjh (z27 time) hg.2.2.2.1) hg.1 (by omega)
 exact ⟨k1,by unfold zaau;rw[k2];omega,k3,k4⟩
theorem zacn {s:Stake} (hg:GoodS s) (time:Int):GoodS (z3z s time).1:=by
 rw[zaav hg]
 obtain ⟨k1,k2,k3,k4⟩:=zakp hg time
 obtain ⟨g1,g2,g3,g4,g5,g6,g7⟩:=hg
 refine ⟨k1,⟨g2.1,g2.2.1,?_⟩,g3,zjh _ g4,?_,?_,?_⟩
 ·exact Nat.le_trans (List.length_filter_le _ _) g2.2.2
 ·rw[k3];exact g5
 ·exact k2.symm
 ·rw[k4];exact g7
theorem zahg (v h f:Int):∀ (l:List Wait) (t:Int),l.foldl (fun t w=>t+slN v h f w) t=t+(zpl l - zpl (l.map (slW v h f)))
 | [],t=>by simp[zpl]
 | w::l,t=>by
  rw[List.foldl_cons,zahg v h f l,List.map_cons]
  simp only[zpl]
  have:(slW v h f w).Amount=w.Amount - slN v h f w:=by
   unfold slW slN
   split
   ·rfl
   ·omega
  rw[this];omega
theorem zaco {s:Stake} {v h f:Int} (hs:(zex s v h f).2.2=0):GoodS s∧(0≤v∧v < 6)∧(0≤f∧f≤1000)∧0≤zfd s v f∧zfd s v f≤s.Validators.Tokens.get v∧0≤z6a v h f s.Waits∧z6a v h f s.Waits≤s.Bank.Waiting ∧
  zex s v h f=(⟨⟨s.Bank.Free,s.Bank.Bonded - zfd s v f,s.Bank.Waiting - z6a v h f s.Waits,s.Bank.Burnt+zfd s v f+z6a v h f s.Waits⟩,{ s.Validators with Tokens:=s.Validators.Tokens.set v (s.Validators.Tokens.get v - zfd s v f),Lost:=s.Validators.Lost.set v (s.Validators.Lost.get v+(zfd s v f+z6a v h f s.Waits)) },s.Shares,s.Waits.map (slW v h f),s.Next⟩,zfd s v f+z6a v h f s.Waits,0) ∧
  zho ⟨s.Bank.Free,s.Bank.Bonded - zfd s v f,s.Bank.Waiting - z6a v h f s.Waits,s.Bank.Burnt+zfd s v f+z6a v h f s.Waits⟩:=by
 unfold zex at hs ⊢
 by_cases h0:ze1 s 0 v≠0
 ·rw[if_pos h0] at hs;exact absurd hs h0
 ·rw[if_neg h0] at hs ⊢
  obtain ⟨hg,hd,hv⟩:=zks (Decidable.not_not.1 h0)
  by_cases hf:f < 0∨1000 < f
  ·rw[if_pos hf] at hs;cases hs
  ·rw[if_neg hf]
   have hf':0≤f∧f≤1000:=by omega
   obtain ⟨_,b2,b3⟩:=zqb (hg.at hv).1.1 hf'
   obtain ⟨s1,s2⟩:=zaha hg (v:=v) (h:=h) hf'
   obtain ⟨k1,k2⟩:=zaci hg.1 b2 (Int.le_trans b3 (zxi hg hv).1) s1 s2
   refine ⟨hg,hv,hf',b2,b3,s1,s2,?_,?_⟩
   ·unfold zfd;rw[k1]
   ·rw[k1] at k2;exact k2
theorem zahh {s:Stake} {v h f:Int} (hs:(zex s v h f).2.2≠0):(zex s v h f).1=s∧(zex s v h f).2.1=0:=by
 unfold zex at hs ⊢
 split
 ·exact ⟨rfl,rfl⟩
 ·split
  ·exact ⟨rfl,rfl⟩
  ·rename_i h0 h1
   rw[if_neg h0,if_neg h1] at hs
   exact absurd rfl hs
theorem zaea {s:Stake} {v h f:Int} (hs:(zex s v h f).2.2=0):GoodS (zex s v h f).1:=by
 obtain ⟨hg,hv,hf,b1,b2,s1,s2,e,hb⟩:=zaco hs
 rw[e]
 obtain ⟨x,hx⟩:∃ x,x=zfd s v f:=⟨_,rfl⟩
 obtain ⟨y,hy⟩:∃ y,y=z6a v h f s.Waits:=⟨_,rfl⟩
 have hsum:y=zpl s.Waits - zpl (s.Waits.map (slW v h f)):=by
  rw[hy];unfold z6a;rw[zahg];omega
 have hall:zfd s v f≤s.Validators.Tokens.get v:=b2
 rw[← hx] at b1 b2 hb ⊢
 rw[← hy] at s1 s2 hb ⊢
 obtain ⟨g1,g2,g3,g4,g5,g6,g7⟩:=id hg
 have htok:=zxi hg hv
 have o2:okN (s.Bank.Burnt+x+y):=hb.2.2.2.2.2.2.1
 unfold okN at o2
 refine ⟨hb,⟨g2.1,g2.2.1,?_⟩,fun u hu=>?_,?_,?_,?_,?_⟩
 ·show (s.Waits.map (slW v h f)).length≤60
  rw[List.length_map];exact g2.2.2
 ·have hu':0≤(u:Int)∧(u:Int) < 6:=by omega
  by_cases he:(u:Int)=v
  ·obtain ⟨⟨q1,q2,q3,q4,q5⟩,q6,q7⟩:=hg.at hv
   rw[he]
   unfold inA at q1 q3
   refine ⟨⟨?_,q2,?_,?_,q5⟩,q6,q7⟩
   ·show inA ((s.Validators.Tokens.set v (s.Validators.Tokens.get v - x)).get v)
    rw[zfe _ _ hv];unfold inA;omega
   ·show inA ((s.Validators.Lost.set v (s.Validators.Lost.get v+(x+y))).get v)
    rw[zfe _ _ hv];unfold inA;omega
   ·show ¬ (s.Validators.Shares.get v=0∧0 < (s.Validators.Tokens.set v (s.Validators.Tokens.get v - x)).get v)
    rw[zfe _ _ hv];omega
  ·exact zrk (ze2 _ _ hv hu' he) rfl (ze2 _ _ hv hu' he) rfl rfl (fun _ _ _=>rfl) (g3 u hu)
 ·refine zts (fun w hw=>?_) g4
  have hp:=zqb hw hf
  unfold slW
  split
  ·exact ⟨rfl,rfl,rfl,⟨by show 0≤w.Amount - _;omega,by show w.Amount - _≤_;unfold inA at hw;omega⟩,rfl,rfl⟩
  ·exact ⟨rfl,rfl,rfl,hw,rfl,rfl⟩
 ·show sum6 (s.Validators.Tokens.set v (s.Validators.Tokens.get v - x))=s.Bank.Bonded - x
  rw[zz1 _ _ hv,g5];omega
 ·show zpl (s.Waits.map (slW v h f))=s.Bank.Waiting - y
  omega
 ·show sum6 (s.Validators.Lost.set v (s.Validators.Lost.get v+(x+y)))=s.Bank.Burnt+x+y
  rw[zz1 _ _ hv,g7];omega
theorem zakq {s:Stake} (hg:GoodS s) {p:Power} (h:p∈setS s):(0≤p.V∧p.V < 6)∧s.Validators.Jailed.get p.V=false∧p.N=s.Validators.Tokens.get p.V / 100∧1≤p.N:=by
 obtain ⟨v,hv,h1,rfl⟩:=mem_setOf.1 h
 have e:topF (nvF s) v=nvF s v:=by
  unfold topF at h1 ⊢
  split
  ·rfl
  ·rename_i hn;rw[if_neg hn] at h1;omega
 rw[e] at h1
 have hj:s.Validators.Jailed.get v=false:=by
  unfold nvF at h1
  cases hj:s.Validators.Jailed.get v
  ·rfl
  ·rw[hj,if_pos rfl] at h1;omega
 refine ⟨by show 0≤(v:Int)∧(v:Int) < 6;omega,hj,?_,by show 1≤topF (nvF s) v;rw[e];omega⟩
 show topF (nvF s) v=_
 rw[e]
 unfold nvF
 rw[hj];rfl
theorem z33 {s:Stake} (hg:GoodS s) {d v:Int} (hd:0≤d∧d < 4) (hv:0≤v∧v < 6):ze1 s d v=0:=by
 unfold ze1
 rw[if_neg (by simpa using hg),if_neg (by omega)]
def Kept (s t:Stake) (e:Int):Prop :=
 GoodS t∧(e≠0→t=s)∧s.Bank.Burnt≤t.Bank.Burnt∧∀ v:Int,0≤v→v < 6→(s.Validators.Dead.get v=true→t.Validators.Dead.get v=true)∧s.Validators.Lost.get v≤t.Validators.Lost.get v
theorem Kept.same {s:Stake} (hg:GoodS s) (e:Int):Kept s s e:=⟨hg,fun _=>rfl,Int.le_refl _,fun _ _ _=>⟨id,Int.le_refl _⟩⟩
theorem zaeb {s:Stake} (hg:GoodS s) (v:Int) {what:Int} (hw:what=0∨what=1∨what=2):Kept s (zbf s v what).1 (zbf s v what).2:=by
 by_cases h:(zbf s v what).2=0
 ·have hga:=zad9 hw h
  obtain ⟨_,hv,h1,h2,h3,e⟩:=zacm h
  rw[e] at hga ⊢
  refine ⟨hga,fun h=>absurd rfl h,Int.le_refl _,fun u h0 h6=>⟨fun hd=>?_,Int.le_refl _⟩⟩
  show (s.Validators.Dead.set v (what==2)).get u=true
  rw[zqc _ _ hv ⟨h0,h6⟩]
  split
  ·rename_i huv
   rw[huv] at hd
   rcases hw with rfl | rfl | rfl
   ·have:=(hg.at hv).1.2.2.2.2
    cases hj:s.Validators.Jailed.get v
    ·exact absurd ⟨hd,hj⟩ this
    ·exact absurd ⟨rfl,hj⟩ h1
   ·exact absurd ⟨by omega,hd⟩ h2
   ·rfl
  ·exact hd
 ·rw[zahf h];exact .same hg _
theorem zaec {s:Stake} (hg:GoodS s) (v h f:Int):Kept s (zex s v h f).1 (zex s v h f).2.2:=by
 by_cases hs:(zex s v h f).2.2=0
 ·have hga:=zaea hs
  obtain ⟨_,hv,hf,b1,b2,s1,s2,e,hb⟩:=zaco hs
  rw[e] at hga ⊢
  refine ⟨hga,fun h=>absurd rfl h,by show _≤s.Bank.Burnt+zfd s v f+z6a v h f s.Waits;omega,fun u h0 h6=>⟨id,?_⟩⟩
  show _≤(s.Validators.Lost.set v (s.Validators.Lost.get v+(zfd s v f+z6a v h f s.Waits))).get u
  rw[zqc _ _ hv ⟨h0,h6⟩]
  split
  ·rename_i huv;rw[huv];omega
  ·exact Int.le_refl _
 ·rw[(zahh hs).1];exact .same hg _
def zji (r:Ripe):Bool:=decide (1≤r.Id)&&decide (r.Id≤1099511627776)&&decide (0≤r.Due)
def zl4 (p:Packet):Bool:=(p.Kind==1)&&(zca p==0)
def zaaw (c:Consumer):Prop:=(c.On&&c.Gone)=false∧0≤c.Height∧c.Height < 1099511627776∧0≤c.Time∧c.Time≤1099511627776∧0≤c.Id∧c.Id≤1099511627776
instance (c:Consumer):Decidable (zaaw c):=inferInstanceAs (Decidable (_∧_))
def zio (c:Consumer):Bool:=decide (zaaw c)&&decide (zd4 c.Out)&&zw 1 (-1) c.Set&&c.Ripes.all zji&&c.Pending.all zl4
structure FitC (R:Nat) (c:Consumer):Prop where
 set:c.Set.length*16≤R
 pend:c.Pending.length*80≤R
 ripes:c.Ripes.length*16≤R
 said:c.Out.Said.length*16≤R
 due:c.Out.Due.length*8≤R
 ps:∀ p,p∈c.Pending→p.Set.length*16≤R∧p.Done.length*8≤R
theorem FitC.mono {R S:Nat} {c:Consumer} (h:FitC R c) (hr:R≤S):FitC S c :=
 ⟨Nat.le_trans h.set hr,Nat.le_trans h.pend hr,Nat.le_trans h.ripes hr,Nat.le_trans h.said hr,Nat.le_trans h.due hr,fun p hp=>⟨Nat.le_trans (h.ps p hp).1 hr,Nat.le_trans (h.ps p hp).2 hr⟩⟩
theorem zaed {l:List Power} (h:l.length*16≤140737488355328):zd7 l=some l:=by
 rw[zd7,zeh]
 refine Tr.run_split (fun h0=>?_) (fun _=>?_) (.inr trivial)
 ·rw[Tr.rl,List.length_eq_zero_iff.1 h0]
 ·rw[Tr.rg (by simp only[zbd,List.length_nil];omega),Tr.rl]
theorem zaee {l:List Packet} (h:l.length*80≤140737488355328):zaz l=some l:=by
 rw[zaz,zd8]
 refine Tr.run_split (fun h0=>?_) (fun _=>?_) (.inr trivial)
 ·rw[Tr.rl,List.length_eq_zero_iff.1 h0]
 ·rw[Tr.rg (by simp only[zfq,List.length_nil];omega),Tr.rl]
theorem zaef {l:List Ripe} (h:l.length*16≤140737488355328):zek l=some l:=by
 rw[zek,ze9]
 refine Tr.run_split (fun h0=>?_) (fun _=>?_) (.inr trivial)
 ·rw[Tr.rl,List.length_eq_zero_iff.1 h0]
 ·rw[Tr.rg (by simp only[zlb,List.length_nil];omega),Tr.rl]
theorem zakr {l:List Packet} (hl:l.length≤9223372036854775807) (hp:∀ p,p∈l→p.Set.length*16≤140737488351232∧p.Done.length*8≤140737488351232) :
  zbl l=some (!l.all zl4):=by
 obtain ⟨r,h1,h2⟩:=zgh (F:=fun s:(List Packet)×Int×Int=>(zae s.1 s.2.1 s.2.2).run) l.length
  (fun i (_:Unit)=>(l,(l.length:Int),(i:Int))) (fun i _=>True) (fun i _ r=>match r with | .inl k=>0≤k∧(l.drop i).all zl4=false | .inr _=>(l.drop i).all zl4=true) (by
   intro t _
   refine ⟨.inr (),?_,?_⟩
   ·simp only[zae];rw[Tr.rf (by simp),Tr.rl]
   ·rw[List.drop_length];rfl) (by
   intro i t hi _
   have hs:=za0 (l:=l) (k:=i) hi default
   have hm:=zdg (l:=l) (k:=i) hi default
   obtain ⟨p1,p2⟩:=hp _ hm
   simp only[zae,yy4]
   rw[Tr.rt (by simpa using hi),Tr.rg ⟨by omega,by rw[zfq];omega⟩,Tr.rb (v := !zl4 (l.getD i default)) (by
    rw[zol,zj4,Tr.rb (zxe p1 p2),Tr.rl]
    unfold zl4
    congr 1
    rw[Bool.not_and,Bool.or_comm];rfl),hs]
   simp only[List.all_cons]
   obtain ⟨b,hb⟩:∃ b,b=zl4 (l.getD i default):=⟨_,rfl⟩
   rw[← hb]
   cases b with
   | true =>
    refine .inl ⟨(),?_,trivial,?_⟩
    ·rw[Tr.rf (show (!true)=false from rfl),Tr.rl,zv (by omega)]
    ·intro r hr
     cases r with
     | inl x=>exact ⟨hr.1,by rw[hr.2];rfl⟩
     | inr x=>rw[Bool.true_and];exact hr
   | false =>
    refine .inr ⟨.inl i,?_,by omega,by rfl⟩
    rw[Tr.rt (show (!false)=true from rfl),Tr.rl]) 0 () (by omega) trivial
 have h1:zd1 l l.length 0=some r:=h1
 rw[zbl,zb0]
 cases r with
 | inl k =>
  simp only[List.drop_zero] at h2
  rw[Tr.rb (v:=k) (by rw[zce,zba,Tr.ri h1,Tr.rl]),Tr.rl,h2.2]
  simp[h2.1]
 | inr k =>
  simp only[List.drop_zero] at h2
  rw[Tr.rb (v := -1) (by rw[zce,zba,Tr.rj h1,Tr.rl]),Tr.rl,h2]
  rfl
theorem zaks {c:Consumer} (hl:c.Set.length≤9223372036854775807) :
  ∃ r,znd c.Set c.Set.length 0 c=some r∧(match r with | .inl b=>b=false∧zw 1 (-1) c.Set=false | .inr x=>x=c∧zw 1 (-1) c.Set=true):=by
 have:=zqs (F:=fun s:(List Power)×Int×Int×Consumer=>(zfy s.1 s.2.1 s.2.2.1 s.2.2.2).run)
  (fun s=>s.1=c.Set∧s.2.1=c.Set.length∧0≤s.2.2.1∧s.2.2.1≤c.Set.length∧s.2.2.2=c ∧ -1≤zf3 c.Set s.2.2.1∧(0 < s.2.2.1→0≤zf3 c.Set s.2.2.1)) (fun s=>c.Set.length - s.2.2.1.toNat)
  (fun s r=>match r with | .inl b=>b=false∧zw 1 (zf3 c.Set s.2.2.1) (c.Set.drop s.2.2.1.toNat)=false | .inr x=>x=c∧zw 1 (zf3 c.Set s.2.2.1) (c.Set.drop s.2.2.1.toNat)=true) ?_ (c.Set,(c.Set.length:Int),0,c) ⟨rfl,rfl,by simp,by simp,rfl,by simp[zf3],by simp⟩
 ·exact this
 ·rintro ⟨x0,x1,x2,x3⟩ ⟨h1,h2,h3,h4,h5,h6,h7⟩
  simp only at h1 h2 h3 h4 h5 h6 h7
  subst h5
  rw[h1,h2] at *
  simp only[zfy]
  by_cases hc:x2 < x3.Set.length
  ·have hs:=za0 (l:=x3.Set) (k:=x2.toNat) (by omega) default
   rw[Tr.rt (by simpa using hc),Tr.rg ⟨h3,hc⟩,Tr.rg (by
    intro h _
    simp only[decide_eq_true_eq] at h
    rw[zj (x:=x2 - 1) (by omega) (by omega)]
    exact ⟨⟨by omega,by simp only[Sl.len];omega⟩,trivial⟩)]
   rw[hs]
   have hp:(decide (x2 > 0)&&decide ((x3.Set.getD (i64.wrap (x2 - 1)).toNat default).V≥(x3.Set.getD x2.toNat default).V))=(decide (x2 > 0)&&decide (zf3 x3.Set x2≥(x3.Set.getD x2.toNat default).V)):=by
    by_cases h0:x2 > 0
    ·rw[zj (x:=x2 - 1) (by omega) (by omega)]
     unfold zf3
     rw[if_neg (by omega)]
    ·simp[h0]
   rw[hp]
   generalize hq:x3.Set.getD x2.toNat default=q at *
   by_cases hd:zf3 x3.Set x2 < q.V∧q.V≤5∧1≤q.N∧q.N≤1125899906842624
   ·obtain ⟨d1,d2,d3,d4⟩:=hd
    have hw:i64.wrap (x2+1)=x2+1:=zj (by omega) (by omega)
    have hpv:zf3 x3.Set (x2+1)=q.V:=by unfold zf3;rw[if_neg (by omega),show x2+1 - 1=x2 by omega,hq]
    refine .inl ⟨_,by rw[Tr.rf (by simp;omega),Tr.rl,hw],⟨rfl,rfl,?_,?_,rfl,?_,?_⟩,?_,?_⟩
    ·simp only[];omega
    ·simp only[];omega
    ·simp only[];rw[hpv];omega
    ·simp only[];rw[hpv];intro _;omega
    ·simp only[];omega
    ·simp only[]
     rw[hpv,show (x2+1).toNat=x2.toNat+1 by omega]
     intro r hr
     rw[zw,decide_eq_true d1,decide_eq_true d2,decide_eq_true d3,decide_eq_true d4]
     simpa using hr
   ·refine .inr ⟨_,by rw[Tr.rt (by
     by_cases h0:x2 > 0
     ·have:=h7 h0
      simp[h0];omega
     ·have:zf3 x3.Set x2 = -1:=by unfold zf3;rw[if_pos (by omega)]
      simp[h0];omega),Tr.rl],?_⟩
    refine ⟨rfl,?_⟩
    rw[zw]
    simp only[Bool.and_eq_false_iff,yy8]
    omega
  ·refine .inr ⟨_,by rw[Tr.rf (by simpa using hc),Tr.rl],?_⟩
   refine ⟨rfl,?_⟩
   rw[List.drop_eq_nil_of_le (by omega)];rfl
theorem z8f (r:Ripe):(((decide (r.Id < 1))||(decide (r.Id > 1099511627776)))||(decide (r.Due < 0))) = !zji r:=by
 unfold zji
 rw[Bool.eq_iff_iff]
 simp only[Bool.or_eq_true,Bool.not_eq_true',Bool.and_eq_false_iff,decide_eq_true_eq,yy8]
 omega
theorem zaeg {l:List Ripe} {c:Consumer} (hl:l.length≤9223372036854775807) :
  zhz l l.length 0 c=some (if l.all zji=true then .inr c else .inl false):=by
 rw[zhz]
 refine zajw (F:=fun s:(List Ripe)×Int×Int×Consumer=>(zcn s.1 s.2.1 s.2.2.1 s.2.2.2).run) l default (fun i=>(l,(l.length:Int),(i:Int),c)) zji false c ?_ ?_ ?_
 ·simp only[zcn];rw[Tr.rf (by simp),Tr.rl]
 ·intro i hi hp
  simp only[zcn,yy4,z8f]
  rw[Tr.rt (by simpa using hi),Tr.rg ⟨by omega,by rw[zlb];omega⟩,Tr.rf (by rw[hp];rfl),Tr.rl,zv (by omega)]
 ·intro i hi hp
  simp only[zcn,yy4,z8f]
  rw[Tr.rt (by simpa using hi),Tr.rg ⟨by omega,by rw[zlb];omega⟩,Tr.rt (by rw[hp];rfl),Tr.rl]
theorem zahi (c:Consumer):(((((((c.On&&c.Gone)||(decide (c.Height < 0)))||(decide (c.Height≥1099511627776)))||(decide (c.Time < 0)))||(decide (c.Time > 1099511627776)))||(decide (c.Id < 0)))||(decide (c.Id > 1099511627776))) = !decide (zaaw c):=by
 rw[Bool.eq_iff_iff]
 rw[Bool.not_eq_true',yy8]
 unfold zaaw
 generalize (c.On&&c.Gone)=b
 cases b<;>simp only[Bool.or_eq_true,decide_eq_true_eq,reduceCtorEq,true_or,false_or,false_and,true_and,not_false_eq_true,iff_true]<;>omega
theorem zrm {c:Consumer} (h:FitC 140737488351232 c):zdt c=some (zio c):=by
 have e1:=h.set;have e2:=h.pend;have e3:=h.ripes
 rw[zdt,zne]
 simp only[zahi,zx9,Option.isSome_some,yy2]
 rw[Tr.rg (by simp)]
 unfold zio
 by_cases h1:zaaw c
 ·by_cases h2:zd4 c.Out
  ·rw[Tr.rf (by simp[h1,h2]),decide_eq_true h1,decide_eq_true h2]
   obtain ⟨r,f1,f2⟩:=zaks (c:=c) (by omega)
   cases r with
   | inl b=>rw[Tr.ri f1,Tr.rl,f2.1,f2.2];rfl
   | inr x =>
    rw[Tr.rj f1,f2.1,f2.2]
    have f3:=zaeg (l:=c.Ripes) (c:=c) (by omega)
    by_cases h4:c.Ripes.all zji=true
    ·rw[if_pos h4] at f3
     rw[Tr.rj f3,Tr.rb (zakr (by omega) h.ps),Tr.rl,h4]
     simp
    ·rw[if_neg h4] at f3
     rw[Tr.ri f3,Tr.rl]
     simp[h4]
  ·rw[Tr.rt (by simp[h2]),Tr.rl,decide_eq_false h2]
   simp
 ·rw[Tr.rt (by simp[h1]),Tr.rl,decide_eq_false h1]
  simp
theorem zacp {l:List Power} {v:Int} (hl:l.length≤9223372036854775807):z8 l v=some (zdr l v):=by
 obtain ⟨r,h1,h2⟩:=zgh (F:=fun s:Int×(List Power)×Int×Int=>(zc8 s.1 s.2.1 s.2.2.1 s.2.2.2).run) l.length
  (fun i (_:Unit)=>(v,l,(l.length:Int),(i:Int))) (fun i _=>True) (fun i _ r=>match r with | .inl x=>zdr (l.drop i) v=x | .inr _=>zdr (l.drop i) v=0) (by
   intro t _
   refine ⟨.inr (),?_,?_⟩
   ·simp only[zc8];rw[Tr.rf (by simp),Tr.rl]
   ·rw[List.drop_length];rfl) (by
   intro i t hi _
   have hs:=za0 (l:=l) (k:=i) hi default
   simp only[zc8,yy4]
   rw[Tr.rt (by simpa using hi),Tr.rg ⟨by omega,by rw[zbd];omega⟩,hs]
   by_cases hv:(l.getD i default).V=v
   ·exact .inr ⟨.inl (l.getD i default).N,by rw[Tr.rt (by rw[hv];simp),Tr.rl],by simp only[zdr];rw[if_pos hv]⟩
   ·refine .inl ⟨(),by rw[Tr.rf (by simpa using hv),Tr.rl,zv (by omega)],trivial,?_⟩
    intro r hr
    simp only[zdr]
    rw[if_neg hv]
    exact hr) 0 () (by omega) trivial
 have h1:zl0 v l l.length 0=some r:=h1
 simp only[List.drop_zero] at h2
 rw[z8,zlp]
 cases r with
 | inl x=>rw[Tr.ri h1,Tr.rl,← h2]
 | inr x=>rw[Tr.rj h1,Tr.rl,h2]
