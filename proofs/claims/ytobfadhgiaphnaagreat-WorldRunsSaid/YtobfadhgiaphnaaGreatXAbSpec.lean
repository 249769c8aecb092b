/-
  The walk over abstract states.
-/
import Derived.Test.YtobfadhgiaphnaaGreatXAbCode
namespace Go.Proofs.YtobfadhgiaphnaaGreat.Ab
open Go Go.RowKit
set_option linter.unusedSimpArgs false
set_option linter.unusedVariables false
inductive Norm:AV→AV→Prop where
 | refl {x:AV}:Norm x x
 | nil {s:Sl} (h:s.len=0):Norm (.val (.slice none 0 0)) (.sl s)
 | agg {cs ds:List AV} (hl:cs.length=ds.length) (h:∀ i,i < cs.length→Norm (cs.getD i .any) (ds.getD i .any)):Norm (.agg cs) (.agg ds)
 | tup {cs ds:List AV} (hl:cs.length=ds.length) (h:∀ i,i < cs.length→Norm (cs.getD i .any) (ds.getD i .any)):Norm (.tup cs) (.tup ds)
theorem Rd.norm {C:Cx} {x y:AV} (h:Norm x y) {v:Value} (hr:Rd C x v):Rd C y v:=by
 induction h generalizing v with
 | refl=>exact hr
 | nil h=>cases hr;exact .slnil h
 | @agg cs ds hl _ ih =>
  cases hr with
  | @agg _ vs hvl hh=>exact .agg (hvl.trans hl) (fun i hi=>ih i (by omega) (hh i (by omega)))
 | @tup cs ds hl _ ih =>
  cases hr with
  | @tup _ vs hvl hh=>exact .tup (hvl.trans hl) (fun i hi=>ih i (by omega) (hh i (by omega)))
def NormL (l m:List AV):Prop:=l.length=m.length∧∀ i,i < l.length→Norm (l.getD i .any) (m.getD i .any)
theorem NormL.nil:NormL [] []:=⟨rfl,fun i hi=>absurd hi (Nat.not_lt_zero i)⟩
theorem NormL.cons {x y:AV} {l m:List AV} (h:Norm x y) (k:NormL l m):NormL (x::l) (y::m):=by
 refine ⟨by simp[k.1],fun i hi=>?_⟩
 cases i with
 | zero=>exact h
 | succ i=>exact k.2 i (by simpa using hi)
theorem NormL.append:∀ {l l' m m':List AV},NormL l m→NormL l' m'→NormL (l++l') (m++m')
 | [],l',m,m',h,k=>by
  have:m=[]:=List.eq_nil_of_length_eq_zero h.1.symm
  subst this;exact k
 | x::l,l',m,m',h,k=>by
  cases m with
  | nil=>have:=h.1;simp at this
  | cons y m =>
   refine NormL.cons (h.2 0 (by simp)) (NormL.append ⟨by have:=h.1;simpa using this,fun i hi=>?_⟩ k)
   have:=h.2 (i+1) (by simpa using hi)
   simpa using this
theorem Rds.norm {C:Cx} {l m:List AV} (h:NormL l m) {vs:List Value} (hr:Rds C l vs):Rds C m vs :=
 ⟨hr.1.trans h.1,fun i hi=>(hr.2 i (by rw[h.1];exact hi)).norm (h.2 i (by rw[h.1];exact hi))⟩
structure Par (α:Type) where
 A:AV→Option α
 e:α→AV
 norm:∀ x a,A x=some a→Norm x (e a)
 cl:∀ a,za4v (e a)=true
structure LP (α:Type) where
 P:List AV→Option (α×List AV)
 e:α→List AV
 ok:∀ l a r,P l=some (a,r)→∃ l1,l=l1++r∧NormL l1 (e a)
 cl:∀ a,AV.clearL (fun _=>true) (e a)=true
theorem z41 {p:Nat→Bool}:∀ {l m:List AV},AV.clearL p l=true→AV.clearL p m=true→AV.clearL p (l++m)=true
 | [],_,_,h=>h
 | x::l,m,h,k=>by
  simp only[AV.clearL,yy7] at h
  simp only[List.cons_append,AV.clearL,yy7]
  exact ⟨h.1,z41 h.2 k⟩
def LP.one {α:Type} (p:Par α):LP α where
 P l:=match l with
  | x::r=>match p.A x with
   | some a=>some (a,r)
   | none=>none
  | []=>none
 e a:=[p.e a]
 ok l a r h:=by
  split at h
  ·rename_i x r'
   split at h
   ·rename_i b hb
    simp only[yy1,Prod.mk.injEq] at h
    obtain ⟨rfl,rfl⟩:=h
    exact ⟨[x],rfl,.cons (p.norm _ _ hb) .nil⟩
   ·cases h
  ·cases h
 cl a:=by
  simp only[AV.clearL,Bool.and_true]
  exact p.cl a
def LP.seq {α β:Type} (p:LP α) (q:LP β):LP (α×β) where
 P l:=match p.P l with
  | some (a,r)=>match q.P r with
   | some (b,r')=>some ((a,b),r')
   | none=>none
  | none=>none
 e ab:=p.e ab.1++q.e ab.2
 ok l ab r h:=by
  split at h
  ·rename_i a r1 h1
   split at h
   ·rename_i b r2 h2
    simp only[yy1,Prod.mk.injEq] at h
    obtain ⟨rfl,rfl⟩:=h
    obtain ⟨l1,rfl,n1⟩:=p.ok _ _ _ h1
    obtain ⟨l2,rfl,n2⟩:=q.ok _ _ _ h2
    exact ⟨l1++l2,(List.append_assoc _ _ _).symm,n1.append n2⟩
   ·cases h
  ·cases h
 cl ab:=z41 (p.cl _) (q.cl _)
def LP.map {α β:Type} (p:LP α) (f:α→β) (g:β→α) (hfg:∀ a,g (f a)=a):LP β where
 P l:=match p.P l with
  | some (a,r)=>some (f a,r)
  | none=>none
 e b:=p.e (g b)
 ok l b r h:=by
  split at h
  ·rename_i a r1 h1
   simp only[yy1,Prod.mk.injEq] at h
   obtain ⟨rfl,rfl⟩:=h
   rw[hfg]
   exact p.ok _ _ _ h1
  ·cases h
 cl b:=p.cl _
def Par.ofLP {α:Type} (p:LP α):Par α where
 A x:=match x with
  | .agg l=>match p.P l with
   | some (a,[])=>some a
   | _=>none
  | _=>none
 e a:=.agg (p.e a)
 norm x a h:=by
  split at h
  ·split at h
   ·rename_i l b hb
    simp only[yy1] at h
    subst h
    obtain ⟨l1,e1,n1⟩:=p.ok _ _ _ hb
    simp only[List.append_nil] at e1
    subst e1
    exact .agg n1.1 n1.2
   ·cases h
  ·cases h
 cl a:=p.cl a
def intP:Par Int where
 A:=aI
 e:=.i
 norm x a h:=by
  unfold aI at h
  split at h
  ·simp only[yy1] at h;subst h;exact .refl
  ·cases h
 cl _:=rfl
def boolP:Par Bool where
 A:=aB
 e:=.b
 norm x a h:=by
  unfold aB at h
  split at h
  ·simp only[yy1] at h;subst h;exact .refl
  ·cases h
 cl _:=rfl
def z43:Par ByteArray where
 A:=aS
 e:=.s
 norm x a h:=by
  unfold aS at h
  split at h
  ·simp only[yy1] at h;subst h;exact .refl
  ·cases h
 cl _:=rfl
def aSl {α:Type} (f:Sl→Option (List α)):AV→Option (List α)
 | .sl s=>f s
 | .val (.slice none 0 0)=>some []
 | _=>none
def slP {α:Type} (mk:List α→Sl) (f:Sl→Option (List α)) (hf:∀ s l,f s=some l→s=mk l) (h0:(mk []).len=0):Par (List α) where
 A:=aSl f
 e l:=.sl (mk l)
 norm x a h:=by
  unfold aSl at h
  split at h
  ·rw[hf _ _ h];exact .refl
  ·simp only[yy1] at h;subst h;exact .nil h0
  ·cases h
 cl _:=rfl
def zbc:Par (List Int):=slP .ints (fun | .ints l=>some l | _=>none) (fun s l h=>by cases s<;>simp_all) rfl
def z6x:Par (List ByteArray):=slP .strs (fun | .strs l=>some l | _=>none) (fun s l h=>by cases s<;>simp_all) rfl
def z17:Par (List UInt8):=slP .bytes (fun | .bytes l=>some l | _=>none) (fun s l h=>by cases s<;>simp_all) rfl
def zg:Par (List Power):=slP .powers (fun | .powers l=>some l | _=>none) (fun s l h=>by cases s<;>simp_all) rfl
def zaz:Par (List Packet):=slP .packets (fun | .packets l=>some l | _=>none) (fun s l h=>by cases s<;>simp_all) rfl
def zca:Par (List Wait):=slP .waits (fun | .waits l=>some l | _=>none) (fun s l h=>by cases s<;>simp_all) rfl
def zal:Par (List Asked):=slP .asked (fun | .asked l=>some l | _=>none) (fun s l h=>by cases s<;>simp_all) rfl
def znw:Par (List Ripe):=slP .ripes (fun | .ripes l=>some l | _=>none) (fun s l h=>by cases s<;>simp_all) rfl
def deedsP:Par (List Deed):=slP .deeds (fun | .deeds l=>some l | _=>none) (fun s l h=>by cases s<;>simp_all) rfl
def z9i:Par (List Reply):=slP .replies (fun | .replies l=>some l | _=>none) (fun s l h=>by cases s<;>simp_all) rfl
