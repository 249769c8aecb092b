/-
  The walk over abstract states.
-/
import Derived.Test.YtobfadhgiaphnaaGreatXAbOp2
import Derived.ChangeKeysEq
namespace Go.Proofs.YtobfadhgiaphnaaGreat.Ab
open Go Go.RowKit
set_option linter.unusedSimpArgs false
set_option linter.unusedVariables false
def zad2 (P:Program) (T:TypeId) (cs:List AV) (off:Nat):Option AV :=
 match zr P (isAgg T),P.info? T with
 | some t,some i=>if ((cs.drop off).take i.size).length=i.size∧(t=true∨i.size=1) then some (zq3 t ((cs.drop off).take i.size)) else none
 | _,_=>none
def eqFs (P:Program) (eq:TypeId→AV→AV→Option Bool) (xs ys:List AV):List Field→Option Bool
 | []=>some true
 | f :: l => if f.name ≠ "_" then match zad2 P f.type xs f.offset, zad2 P f.type ys f.offset with
   | some a,some b=>match eq f.type a b,eqFs P eq xs ys l with
    | some r,some r'=>some (r&&r')
    | _,_=>none
   | _,_=>none
  else none
def eqIs (P:Program) (eq:AV→AV→Option Bool) (e:TypeId) (n:Nat) (xs ys:List AV):List Nat→Option Bool
 | []=>some true
 | i::l=>match zad2 P e xs (i*n),zad2 P e ys (i*n) with
   | some a,some b=>match eq a b,eqIs P eq e n xs ys l with
    | some r,some r'=>some (r&&r')
    | _,_=>none
   | _,_=>none
def eqT (P:Program):Nat→TypeId→AV→AV→Option Bool
 | 0,_,_,_=>none
 | d+1,T,x,y=>match P.underlying T,x,y with
  | some (.int _),.val (.int k a),.val (.int k' b)=>if k=k' then some (a==b) else none
  | some .bool,.val (.bool a),.val (.bool b)=>some (a==b)
  | some .string,.val (.string a),.val (.string b)=>some (a.toList==b.toList)
  | some (.struct fs),.agg xs,.agg ys=>if P.stoodInHeld T=false then eqFs P (eqT P d) xs ys fs.toList else none
  | some (.array n e),.agg xs,.agg ys=>match P.info? e with
   | some _=>eqIs P (eqT P d e) e (P.cellsOf e) xs ys (List.range n)
   | none=>none
  | _,_,_=>none
section
variable {P:Program} {C:Cx}
theorem z9h {T:TypeId} {cs:List AV} {off:Nat} {x:AV} (hx:zad2 P T cs off=some x) {vs:List Value} (hr:Rds C cs vs) (w:World) :
  ∃ v,(part T vs.toArray off).run P w=.ok v w∧Rd C x v:=by
 unfold zad2 at hx
 split at hx
 ·rename_i t i ht hi
  split at hx
  ·rename_i hc
   simp only[yy1] at hx
   subst hx
   have hr':Rds C ((cs.drop off).take i.size) ((vs.drop off).take i.size):=(hr.drop off).take _
   have h1:t=false→i.size=1:=fun ht=>hc.2.resolve_left (by simp[ht])
   have hsz:(sizeOf T).run P w=.ok i.size w:=by simp[Go.sizeOf,typeInfo,hi]
   refine ⟨_,?_,zkr hr' (fun ht=>by rw[hc.1];exact h1 ht)⟩
   cases t with
   | true =>
    have e1:vs.toArray.extract off (off+i.size)=((vs.drop off).take i.size).toArray:=by simp[List.extract_eq_take_drop]
    simp[part,zq ht w,hsz,e1]
   | false =>
    have hn1:=h1 rfl
    have hlt:off < vs.length:=by have:=hr'.1;rw[hc.1,hn1] at this;simp at this;omega
    have e2:vs[off]?=some vs[off]:=yy3 hlt
    have e3:((vs.drop off).take i.size).getD 0 undef=vs[off]:=by
     rw[yy0,List.getElem?_take_of_lt (by omega),List.getElem?_drop,Nat.add_zero,e2];rfl
    simp only[Bool.false_eq_true,if_false,e3]
    simp[part,zq ht w,e2]
  ·cases hx
 ·cases hx
theorem zamh {d:Nat} {eq:TypeId→AV→AV→Option Bool} (heq:∀ T x y b,eq T x y=some b→∀ u v,Rd C x u→Rd C y v→∀ w,(Op.equalIn d T u v).run P w=.ok b w)
  {xs ys:List AV} {us vs:List Value} (hx:Rds C xs us) (hy:Rds C ys vs) (w:World):∀ (fs:List Field) (b:Bool),eqFs P eq xs ys fs=some b→(Op.eqFields d us.toArray vs.toArray fs).run P w=.ok b w
 | [],b,h=>by
  simp only[eqFs,yy1] at h
  subst h;rfl
 | f::l,b,h=>by
  simp only[eqFs] at h
  split at h
  ·rename_i hn
   split at h
   ·rename_i a a' h1 h2
    split at h
    ·rename_i r r' h3 h4
     simp only[yy1] at h
     subst h
     obtain ⟨u,e1,e2⟩:=z9h h1 hx w
     obtain ⟨v,e3,e4⟩:=z9h h2 hy w
     have e5:=heq _ _ _ _ h3 u v e2 e4 w
     have e6:=zamh heq hx hy w l r' h4
     simp only[Op.eqFields,if_pos hn,Sem.run_bind,e1,e3,e5,Result.andThen_ok,Sem.run_ite]
     cases r
     ·rfl
     ·simpa using e6
    ·cases h
   ·cases h
  ·cases h
theorem zami {d:Nat} {e:TypeId} {n:Nat} {eq:AV→AV→Option Bool} (heq:∀ x y b,eq x y=some b→∀ u v,Rd C x u→Rd C y v→∀ w,(Op.equalIn d e u v).run P w=.ok b w)
  {xs ys:List AV} {us vs:List Value} (hx:Rds C xs us) (hy:Rds C ys vs) (w:World):∀ (is:List Nat) (b:Bool),eqIs P eq e n xs ys is=some b→(Op.eqItems d e n us.toArray vs.toArray is).run P w=.ok b w
 | [],b,h=>by
  simp only[eqIs,yy1] at h
  subst h;rfl
 | i::l,b,h=>by
  simp only[eqIs] at h
  split at h
  ·rename_i a a' h1 h2
   split at h
   ·rename_i r r' h3 h4
    simp only[yy1] at h
    subst h
    obtain ⟨u,e1,e2⟩:=z9h h1 hx w
    obtain ⟨v,e3,e4⟩:=z9h h2 hy w
    have e5:=heq _ _ _ h3 u v e2 e4 w
    have e6:=zami heq hx hy w l r' h4
    simp only[Op.eqItems,Sem.run_bind,e1,e3,e5,Result.andThen_ok,Sem.run_ite]
    cases r
    ·rfl
    ·simpa using e6
   ·cases h
  ·cases h
theorem zakd:∀ (d:Nat) (T:TypeId) (x y:AV) (b:Bool),eqT P d T x y=some b→∀ m u v,Rd C x u→Rd C y v→∀ w,(Op.equalIn (m+d) T u v).run P w=.ok b w
 | 0,T,x,y,b,h=>by cases h
 | d+1,T,x,y,b,h=>by
  intro m u v hu hv w
  simp only[eqT] at h
  split at h
  ·rename_i k0 k a k' b' hT
   cases hu;cases hv
   split at h
   ·rename_i hk
    subst hk
    simp only[yy1] at h;subst h
    exact run_equalIn_int w (m+d) T k k0 a b' hT
   ·cases h
  ·rename_i a b' hT
   cases hu;cases hv
   simp only[yy1] at h;subst h
   exact run_equalIn_bool' w (m+d) T a b' hT
  ·rename_i a b' hT
   cases hu;cases hv
   simp only[yy1] at h;subst h
   exact run_equalIn_string w (m+d) T a b' hT
  ·rename_i fs xs ys hT
   split at h
   ·rename_i hst
    cases hu with
    | @agg _ us hl hh =>
     cases hv with
     | @agg _ vs hl' hh' =>
      have hfs:P.fieldsOf T=fs:=by unfold Program.fieldsOf;rw[hT]
      have e1:=run_equalIn_struct w (m+d) T us.toArray vs.toArray (by rw[hfs];exact hT) hst
      rw[hfs] at e1
      show (Op.equalIn (m+d+1) T _ _).run P w=_
      rw[e1]
      exact zamh (fun T x y b hb u v hu hv w=>zakd d T x y b hb m u v hu hv w) (Rds.mk hl hh) (Rds.mk hl' hh') w _ _ h
   ·cases h
  ·rename_i n e xs ys hT
   split at h
   ·rename_i i hi
    cases hu with
    | @agg _ us hl hh =>
     cases hv with
     | @agg _ vs hl' hh' =>
      have e1:=Go.run_equalIn_array w (m+d) us.toArray vs.toArray hT hi
      show (Op.equalIn (m+d+1) T _ _).run P w=_
      rw[e1]
      exact zami (fun x y b hb u v hu hv w=>zakd d e x y b hb m u v hu hv w) (Rds.mk hl hh) (Rds.mk hl' hh') w _ _ h
   ·cases h
  ·cases h
end
theorem zan1 {P:Program} {G:Gl} {blks:List Blk} {nu:Nat→Option Value} {w:World} (h:MInv G blks nu w) {o:Oper} {op:BinOp} {T U:TypeId} {x y:Operand} {e:Operand→Value} {xs ys:List AV} {b:Bool}
  (hop:op=.eql∨op=.neq) (ho:o.op=.binOp op T x y U) (hx:Rd (cx G blks nu w) (.agg xs) (e x)) (hy:Rd (cx G blks nu w) (.agg ys) (e y)) (hg:P.eqGuardType P.depth T=false)
  (hb:eqT P 8 T (.agg xs) (.agg ys)=some b):Does P o e w (zln G blks nu w ⟨[],.b (if op=.eql then b else !b),[]⟩):=by
 have e1:=zakd 8 T _ _ b hb 9992 (e x) (e y) hx hy w
 generalize hv:e x=u at hx e1
 generalize hw:e y=v at hy e1
 cases hx with
 | @agg _ us hl hh =>
  cases hy with
  | @agg _ vs hl' hh' =>
   refine Does.value (v:=.bool (if op=.eql then b else !b)) (w':=w) ?_ (za8 h .val)
   rcases hop with rfl | rfl
   ·simp only[execOp,ho,hv,hw,Sem.run_bind,run_eqGuard_agg w _ T x y us.toArray vs.toArray hg,Result.andThen_ok,run_eql_struct,e1,Sem.run_pure,if_true]
   ·simp only[execOp,ho,hv,hw,Sem.run_bind,run_eqGuard_agg w _ T x y us.toArray vs.toArray hg,Result.andThen_ok,run_neq_struct,e1,Sem.run_pure]
    rfl
