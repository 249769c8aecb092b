/-
  The walk over abstract states.
-/
import Derived.Test.YtobfadhgiaphnaaGreatXAbRun
namespace Go.Proofs.YtobfadhgiaphnaaGreat.Ab
open Go Go.RowKit
set_option linter.unusedSimpArgs false
set_option linter.unusedVariables false
structure FP where
 rs:List Nat
 rb:List Nat
 wb:List Nat
structure View where
 sl:Nat→SV
 bk:Nat→Blk
def zc4:Option FP→RSt→View
 | none,st=>⟨st.slot,st.blk⟩
 | some fp,st=>⟨fun d=>if fp.rs.contains d then st.slot d else .plain .any,fun j=>if fp.rb.contains j then st.blk j else .dead⟩
def View.E (V:View) (gs:List Nat) (d:Nat):Option Bool:=if gs.contains d then (V.sl d).boolOf else none
def zakm (ops:Array Oper) (gs:List Nat) (V:View) (o:Oper):Option (List (Nat×Bool)) :=
 match o.guard with
 | none=>some []
 | some (j,want)=>match (ops[j]?).bind (·.dst) with
  | some d=>if gs.contains d then match V.sl d with
    | .plain (.val (.bool _))=>some [(d,want)]
    | .cond t (.val (.bool _))=>some ((d,want)::t)
    | _=>none
   else none
  | none=>none
def za5d (t t':List (Nat×Bool)):Bool:=t.all fun p=>t'.contains p
def zw8 (V:View) (t:List (Nat×Bool)):Operand→AV
 | .tmp d=>match V.sl d with
  | .plain x=>x
  | .cond t' x=>if za5d t' t=true then x else .any
 | .const v=>.val v
 | .global _=>.any
 | .func f=>.fn f []
def z44 (E:Nat→Option Bool):List (Nat×Bool)→List Prop→Prop
 | [],ps=>z15 ps
 | (d,want)::t,ps=>match E d with
  | some b=>b=want→z44 E t ps
  | none=>z44 E t ps
def zakn (E:Nat→Option Bool) (t:List (Nat×Bool)) (ps:List Prop):List Prop :=
 match ps,t with
 | [],_=>[]
 | ps,[]=>ps
 | ps,t=>[z44 E t ps]
def zako (V:View) (gs:List Nat) (t:List (Nat×Bool)) (c x y:Operand):Option AV :=
 match c with
 | .tmp d=>match zw8 V t (.tmp d) with
  | .val (.bool b) =>
   match x,y with
   | .const (.bool true),y=>match zw8 V (if gs.contains d then (d,false)::t else t) y with
    | .val (.bool b')=>some (.val (.bool (b||b')))
    | _=>none
   | x,.const (.bool false)=>match zw8 V (if gs.contains d then (d,true)::t else t) x with
    | .val (.bool b')=>some (.val (.bool (b&&b')))
    | _=>none
   | _,_=>none
  | _=>none
 | _=>none
structure Out where
 obl:List Prop
 sv:SV
 bs:List (Nat×Blk)
def core (Y:Env) (ops:Array Oper) (gs:List Nat) (id:Nat) (V:View) (o:Oper):Option Out :=
 match zakm ops gs V o with
 | none=>none
 | some t =>
  match o.op with
  | .pick c x y=>match zako V gs t c x y with
   | some v=>some ⟨[],if t=[] then .plain v else .cond t v,[]⟩
   | none=>none
  | _=>match zaj9 Y id (zw8 V t) V.bk o with
   | some r=>match t,r.bs with
    | [],bs=>some ⟨r.obl,.plain r.v,bs⟩
    | t,[]=>some ⟨zakn (V.E gs) t r.obl,.cond t r.v,[]⟩
    | _,_=>none
   | none=>none
def zamm (l:List SV):Option Nat→SV→List SV
 | some d,sv=>l.set d sv
 | none,_=>l
def RSt.apply (st:RSt) (dst:Option Nat) (sv:SV) (bs:List (Nat×Blk)):RSt:=⟨zamm st.slots dst sv,upd st.blks bs⟩
def z45 (gs:List Nat) (st:RSt):Option Nat→Bool
 | some d => !(gs.contains d&&(st.slot d).boolOf.isSome)
 | none=>true
def wbOk:Option FP→List (Nat×Blk)→Bool
 | some f,bs=>bs.all fun p=>f.wb.contains p.1
 | none,_=>true
def zmm (Y:Env) (ops:Array Oper) (gs:List Nat) (ids:Nat→Nat) (fp:Nat→Option FP) (i:Nat) (st:RSt):Option (List Prop×RSt) :=
 match ops[i]? with
 | none=>none
 | some o=>match core Y ops gs (ids i) (zc4 (fp i) st) o with
  | some out=>if wbOk (fp i) out.bs=true∧z45 gs st o.dst=true then some (out.obl,st.apply o.dst out.sv out.bs) else none
  | none=>none
section
variable {Y:Env} {G:Gl} {gs:List Nat} {st:RSt} {nu:Nat→Option Value} {a:Act} {w:World}
theorem RInv.slot (h:RInv G gs st nu a w) (d:Nat):SRd (st.E gs) (cx G st.blks nu w) (st.slot d) (a.tmps.getD d undef):=by
 by_cases hd:d < st.slots.length
 ·exact h.slots d hd
 ·have:st.slot d=.plain .any:=by unfold RSt.slot;rw[yy0,List.getElem?_eq_none (by omega)];rfl
  rw[this];exact Rd.any
theorem z46 (fp:Option FP) (d:Nat):(zc4 fp st).sl d=st.slot d∨(zc4 fp st).sl d=.plain .any:=by
 cases fp with
 | none=>exact .inl rfl
 | some f =>
  simp only[zc4]
  split
  ·exact .inl rfl
  ·exact .inr rfl
theorem za5e {fp:Option FP} {d:Nat} {b:Bool} (hE:(zc4 fp st).E gs d=some b):st.E gs d=some b:=by
 unfold View.E at hE
 unfold RSt.E
 split at hE
 ·rename_i hc
  rw[if_pos hc]
  rcases z46 (st:=st) fp d with hs | hs
  ·rw[← hs];exact hE
  ·rw[hs] at hE;cases hE
 ·cases hE
def Tags (E:Nat→Option Bool) (t:List (Nat×Bool)):Prop:=∀ p,p∈t→E p.1=some p.2
theorem zt4 (h:RInv G gs st nu a w) {fp:Option FP} {t:List (Nat×Bool)} (ht:Tags (st.E gs) t) (x:Operand):Rd (cx G st.blks nu w) (zw8 (zc4 fp st) t x) (a.eval x):=by
 cases x with
 | const v=>exact .val
 | global g=>exact .any
 | func f=>exact .fn (cs:=[]) (vs:=[]) rfl (fun i hi=>absurd hi (Nat.not_lt_zero i))
 | tmp d =>
  have hs:=h.slot d
  simp only[zw8,Act.eval]
  rcases z46 (st:=st) fp d with e | e
  ·rw[e]
   cases hx:st.slot d with
   | plain x=>rw[hx] at hs;exact hs
   | cond t' x =>
    rw[hx] at hs
    simp only
    split
    ·rename_i hw
     rcases hs with ⟨_,h2⟩ | ⟨⟨p,hp,hpE⟩,_⟩
     ·exact h2
     ·have hmem:p∈t:=by
       have:=List.all_eq_true.1 hw p hp
       simpa using this
      have:=ht p hmem
      rw[hpE] at this
      simp at this
    ·exact .any
  ·rw[e];exact .any
theorem zw9 (h:RInv G gs st nu a w) {ops:Array Oper} {fp:Option FP} {o:Oper} {t:List (Nat×Bool)} (ht:zakm ops gs (zc4 fp st) o=some t) :
  (Region.wanted o (yielded ops a.tmps)=true∧Tags (st.E gs) t)∨(Region.wanted o (yielded ops a.tmps)=false∧t≠[]∧∃ p,p∈t∧st.E gs p.1=some (!p.2)):=by
 unfold zakm at ht
 split at ht
 ·rename_i hg
  simp only[yy1] at ht
  subst ht
  exact .inl ⟨by simp[Region.wanted,hg],fun p hp=>by cases hp⟩
 ·rename_i j want hg
  split at ht
  ·rename_i d hd
   split at ht
   ·rename_i hc
    have hy:yielded ops a.tmps j=match a.tmps.getD d undef with | .bool b=>some b | _=>none:=by
     cases ho:ops[j]? with
     | none=>rw[ho] at hd;cases hd
     | some oj =>
      rw[ho] at hd
      simp only[Option.bind_some] at hd
      simp[yielded,ho,hd]
      cases a.tmps[d]? with
      | none=>rfl
      | some u=>cases u<;>rfl
    have hs:=h.slot d
    rcases z46 (st:=st) fp d with e | e
    ·rw[e] at ht
     have hE:∀ b,(st.slot d).boolOf=some b→st.E gs d=some b:=fun b hb=>by unfold RSt.E;rw[if_pos hc];exact hb
     split at ht
     ·rename_i b hx
      simp only[yy1] at ht
      subst ht
      rw[hx] at hs
      have hv:a.tmps.getD d undef=.bool b:=by
       generalize a.tmps.getD d undef=v at hs
       cases hs;rfl
      have hEb:=hE b (by rw[hx];rfl)
      rw[hv] at hy
      by_cases hbw:b=want
      ·subst hbw
       exact .inl ⟨by simp[Region.wanted,hg,hy],fun p hp=>by simp at hp;subst hp;exact hEb⟩
      ·refine .inr ⟨by simp[Region.wanted,hg,hy,hbw],by simp,(d,want),by simp,?_⟩
       rw[hEb];cases b<;>cases want<;>simp_all
     ·rename_i t' b hx
      simp only[yy1] at ht
      subst ht
      rw[hx] at hs
      have hEb:=hE b (by rw[hx];rfl)
      rcases hs with ⟨h1,h2⟩ | ⟨⟨p,h1,h2⟩,h3⟩
      ·have hv:a.tmps.getD d undef=.bool b:=by
        generalize a.tmps.getD d undef=v at h2
        cases h2;rfl
       rw[hv] at hy
       by_cases hbw:b=want
       ·subst hbw
        refine .inl ⟨by simp[Region.wanted,hg,hy],fun p hp=>?_⟩
        rcases List.mem_cons.1 hp with rfl | hp
        ·exact hEb
        ·exact h1 p hp
       ·refine .inr ⟨by simp[Region.wanted,hg,hy,hbw],by simp,(d,want),by simp,?_⟩
        rw[hEb];cases b<;>cases want<;>simp_all
      ·rw[h3] at hy
       refine .inr ⟨?_,by simp,p,List.mem_cons_of_mem _ h1,h2⟩
       have:yielded ops a.tmps j=none:=by rw[hy];rfl
       simp[Region.wanted,hg,this]
     ·cases ht
    ·rw[e] at ht;simp at ht
   ·cases ht
  ·cases ht
theorem RInv.put (h:RInv G gs st nu a w) {blks':List Blk} {nu':Nat→Option Value} {w':World} (hle:(cx G st.blks nu w).Le (cx G blks' nu' w')) (hm:MInv G blks' nu' w')
  {dst:Option Nat} {sv:SV} {v:Value} (hE:∀ d,dst=some d→gs.contains d=true→(st.slot d).boolOf=none)
  (hv:SRd (st.E gs) (cx G blks' nu' w') sv v) :
  RInv G gs ⟨zamm st.slots dst sv,blks'⟩ nu' (a.put dst v) w':=by
 cases dst with
 | none =>
  refine ⟨hm,h.size,h.defers,fun d hd=>?_⟩
  exact (h.slots d hd).mono hle (fun _ _ h=>h)
 | some d0 =>
  have hEmono:∀ d b,st.E gs d=some b→RSt.E ⟨st.slots.set d0 sv,blks'⟩ gs d=some b:=by
   intro d b hb
   unfold RSt.E at hb ⊢
   split at hb
   ·rename_i hc
    rw[if_pos hc]
    by_cases hd:d0=d
    ·subst hd
     rw[hE d0 rfl hc] at hb;cases hb
    ·have:(⟨st.slots.set d0 sv,blks'⟩:RSt).slot d=st.slot d:=getD_set_ne hd
     rw[this];exact hb
   ·cases hb
  show RInv G gs ⟨st.slots.set d0 sv,blks'⟩ nu' (a.put (some d0) v) w'
  refine ⟨hm,by simp[Act.put,h.size],h.defers,fun d hd=>?_⟩
  simp only[List.length_set] at hd
  have hsz:=h.size
  by_cases hdd:d0=d
  ·subst hdd
   have e1:(⟨st.slots.set d0 sv,blks'⟩:RSt).slot d0=sv:=z9 hd
   have e2:(a.put (some d0) v).tmps.getD d0 undef=v:=by
    simp[Act.put,Array.getD,hsz,hd]
   rw[e1,e2]
   exact hv.mono (.refl _) hEmono
  ·have e1:(⟨st.slots.set d0 sv,blks'⟩:RSt).slot d=st.slot d:=getD_set_ne hdd
   have e2:(a.put (some d0) v).tmps.getD d undef=a.tmps.getD d undef:=by
    simp[Act.put,Array.getElem?_setIfInBounds_ne hdd]
   rw[e1,e2]
   exact (h.slots d hd).mono hle hEmono
theorem zzk {E E':Nat→Option Bool} (hE:∀ d b,E d=some b→E' d=some b):∀ {t:List (Nat×Bool)} {ps:List Prop},Tags E' t→z44 E t ps→z15 ps
 | [],_,_,h=>h
 | (d,want)::t,ps,ht,h=>by
  simp only[z44] at h
  have ht':Tags E' t:=fun p hp=>ht p (List.mem_cons_of_mem _ hp)
  cases hd:E d with
  | none=>rw[hd] at h;exact zzk hE ht' h
  | some b =>
   rw[hd] at h
   have h2:=ht (d,want) (by simp)
   have h3:=hE d b hd
   simp only at h2
   rw[h2] at h3
   simp only[yy1] at h3
   exact zzk hE ht' (h h3.symm)
theorem zakp {E E':Nat→Option Bool} (hE:∀ d b,E d=some b→E' d=some b) {t:List (Nat×Bool)} {ps:List Prop} (ht:Tags E' t) (h:z15 (zakn E t ps)):z15 ps:=by
 unfold zakn at h
 split at h
 ·trivial
 ·exact h
 ·exact zzk hE ht h.1
theorem zaf6 (h:RInv G gs st nu a w) {fp:Option FP} {t:List (Nat×Bool)} (ht:Tags (st.E gs) t) {c x y:Operand} {v:AV} (hv:zako (zc4 fp st) gs t c x y=some v) :
  ∃ b,a.eval c=.bool b∧Rd (cx G st.blks nu w) v (if b then a.eval x else a.eval y):=by
 unfold zako at hv
 split at hv
 ·rename_i d
  split at hv
  ·rename_i b hb
   have h1:=zt4 h (fp:=fp) ht (.tmp d)
   rw[hb] at h1
   have hval:a.eval (.tmp d)=.bool b:=by generalize a.eval (.tmp d)=u at h1;cases h1;rfl
   have hE:gs.contains d=true→st.E gs d=some b:=by
    intro hc
    unfold RSt.E
    rw[if_pos hc]
    simp only[zw8] at hb
    rcases z46 (st:=st) fp d with e | e
    ·rw[e] at hb
     cases hx:st.slot d with
     | plain z=>rw[hx] at hb;simp only at hb;rw[hb];rfl
     | cond t' z =>
      rw[hx] at hb
      simp only at hb
      split at hb
      ·rw[hb];rfl
      ·cases hb
    ·rw[e] at hb;cases hb
   have tags:∀ want,b=want→Tags (st.E gs) (if gs.contains d then (d,want)::t else t):=by
    intro want hw
    split
    ·rename_i hc
     intro p hp
     rcases List.mem_cons.1 hp with rfl | hp
     ·rw[← hw];exact hE hc
     ·exact ht p hp
    ·exact ht
   refine ⟨b,hval,?_⟩
   split at hv
   ·split at hv
    ·rename_i b' hb'
     simp only[yy1] at hv;subst hv
     cases b with
     | true=>exact Rd.val
     | false =>
      have h2:=zt4 h (fp:=fp) (tags false rfl) y
      rw[hb'] at h2
      simpa using h2
    ·cases hv
   ·split at hv
    ·rename_i b' hb'
     simp only[yy1] at hv;subst hv
     cases b with
     | false=>exact Rd.val
     | true =>
      have h2:=zt4 h (fp:=fp) (tags true rfl) x
      rw[hb'] at h2
      simpa using h2
    ·cases hv
   ·cases hv
  ·cases hv
 ·cases hv
theorem zaf7 (h:RInv G gs st nu a w) (fp:Option FP):∀ j,(zc4 fp st).bk j=st.blk j∨(zc4 fp st).bk j=.dead:=by
 intro j
 cases fp with
 | none=>exact .inl rfl
 | some f =>
  simp only[zc4]
  split
  ·exact .inl rfl
  ·exact .inr rfl
theorem zan9 (hY:Y.Ok) (h:RInv G gs st nu a w) {ops:Array Oper} {fp:Option FP} {id:Nat} {o:Oper} {out:Out} (hc:core Y ops gs id (zc4 fp st) o=some out) (hobl:z15 out.obl)
  (hd:z45 gs st o.dst=true) {K:Act→World→Prop} {Q:Exit→Act→World→Prop} (hK:∀ nu' a' w',RInv G gs (st.apply o.dst out.sv out.bs) nu' a' w'→K a' w') :
  if Region.wanted o (yielded ops a.tmps) then o.wp Y.P a w K Q else K (a.put o.dst undef) w:=by
 have hE:∀ d,o.dst=some d→gs.contains d=true→(st.slot d).boolOf=none:=by
  intro d hd' hg
  rw[hd'] at hd
  simp only[z45,hg,Bool.true_and,Bool.not_eq_true',Option.isSome_eq_false_iff,Option.isNone_iff_eq_none] at hd
  exact hd
 unfold core at hc
 split at hc
 ·cases hc
 ·rename_i t ht
  have skip:t≠[]→(∃ p,p∈t∧st.E gs p.1=some (!p.2))→∀ x,out.sv=.cond t x→out.bs=[]→K (a.put o.dst undef) w:=by
   intro _ hp x hsv hbs
   have:=hK nu (a.put o.dst undef) w
   rw[hsv,hbs] at this
   exact this (h.put (.refl _) h.mem hE (Or.inr ⟨hp,rfl⟩))
  have run:∀ (v:Value) (w':World) (nu':Nat→Option Value) (bs:List (Nat×Blk)) (x:AV),out.bs=bs→(cx G st.blks nu w).Le (cx G (upd st.blks bs) nu' w')→MInv G (upd st.blks bs) nu' w' →
    Rd (cx G (upd st.blks bs) nu' w') x v→Tags (st.E gs) t→(out.sv=.plain x∨out.sv=.cond t x)→K (a.put o.dst v) w':=by
   intro v w' nu' bs x hbs h1 h2 h3 htg hsv
   have:=hK nu' (a.put o.dst v) w'
   rw[hbs] at this
   refine this (h.put h1 h2 hE ?_)
   rcases hsv with e | e<;>rw[e]
   ·exact h3
   ·exact Or.inl ⟨htg,h3⟩
  split at hc
  ·rename_i c x y hop
   split at hc
   ·rename_i v hv
    simp only[yy1] at hc
    subst hc
    rcases zw9 h ht with ⟨hw,htg⟩ | ⟨hw,hne,hp⟩
    ·rw[if_pos hw]
     obtain ⟨b,hb,hr⟩:=zaf6 h htg hv
     have hdoes:Does Y.P o a.eval w (fun u w'=>u=(if b then a.eval x else a.eval y)∧w'=w):=by
      refine Does.value (v:=if b then a.eval x else a.eval y) (w':=w) ?_ ⟨rfl,rfl⟩
      simp[execOp,hop,hb,asBool]
     refine hdoes.wp fun u w' hu=>?_
     obtain ⟨rfl,rfl⟩:=hu
     exact run _ _ nu [] v rfl (.refl _) h.mem hr htg (by
      simp only
      split
      ·exact .inl rfl
      ·exact .inr rfl)
    ·rw[if_neg (by simp[hw])]
     exact skip hne hp v (by simp[hne]) rfl
   ·cases hc
  ·split at hc
   ·rename_i r hr
    split at hc
    ·simp only[yy1] at hc
     subst hc
     rcases zw9 h ht with ⟨hw,htg⟩ | ⟨_,hne,_⟩
     ·rw[if_pos hw]
      refine (z25 hY h.mem (zaf7 h fp) (fun x=>zt4 h htg x) hr hobl).wp fun v w' hp=>?_
      obtain ⟨nu',h1,h2,h3⟩:=hp
      exact run v w' nu' _ r.v rfl h1 h2 h3 htg (.inl rfl)
     ·exact absurd rfl hne
    ·rename_i hbs
     simp only[yy1] at hc
     subst hc
     rcases zw9 h ht with ⟨hw,htg⟩ | ⟨hw,hne,hp⟩
     ·rw[if_pos hw]
      refine (z25 hY h.mem (zaf7 h fp) (fun x=>zt4 h htg x) hr (zakp (fun d b hb=>za5e hb) htg hobl)).wp fun v w' hp=>?_
      obtain ⟨nu',h1,h2,h3⟩:=hp
      exact run v w' nu' r.bs r.v hbs.symm h1 h2 h3 htg (.inr rfl)
     ·rw[if_neg (by simp[hw])]
      exact skip hne hp r.v rfl rfl
    ·cases hc
   ·cases hc
theorem zzl (hY:Y.Ok) (h:RInv G gs st nu a w) {ops:Array Oper} {ids:Nat→Nat} {fp:Nat→Option FP} {i:Nat} {ob:List Prop} {st':RSt} (hs:zmm Y ops gs ids fp i st=some (ob,st'))
  (hobl:z15 ob) {K:Act→World→Prop} {Q:Exit→Act→World→Prop} (hK:∀ nu' a' w',RInv G gs st' nu' a' w'→K a' w'):wpOp Y.P ops Q i K a w:=by
 unfold zmm at hs
 split at hs
 ·cases hs
 ·rename_i o ho
  split at hs
  ·rename_i out hc
   split at hs
   ·rename_i hok
    simp only[yy1,Prod.mk.injEq] at hs
    obtain ⟨rfl,rfl⟩:=hs
    have:=zan9 (Q:=Q) hY h hc hobl hok.2 hK
    unfold wpOp
    simp only[ho]
    split
    ·rename_i hw;rw[if_pos hw] at this;exact .inl this
    ·rename_i hw;rw[if_neg hw] at this;exact this
   ·cases hs
  ·cases hs
def zxa (Y:Env) (ops:Array Oper) (gs:List Nat) (ids:Nat→Nat) (fp:Nat→Option FP):List Nat→RSt→Option (List Prop×RSt)
 | [],st=>some ([],st)
 | i::l,st=>match zmm Y ops gs ids fp i st with
  | some (ob,st1)=>match zxa Y ops gs ids fp l st1 with
   | some (ob',st2)=>some (ob++ob',st2)
   | none=>none
  | none=>none
theorem z3e:∀ {l m:List Prop},z15 (l++m)→z15 l∧z15 m
 | [],_,h=>⟨trivial,h⟩
 | _::_,_,h=>⟨⟨h.1,(z3e h.2).1⟩,(z3e h.2).2⟩
end
