/-
  The walk over abstract states.
-/
import Derived.Test.YtobfadhgiaphnaaGreatXAbCanon
namespace Go.Proofs.YtobfadhgiaphnaaGreat.Ab
open Go Go.RowKit
set_option linter.unusedSimpArgs false
set_option linter.unusedVariables false
def decP {α:Type} (q:LQ α) (n L:Nat) (p:Pat) (ps:List BS) (st:St):Option α :=
 if st.n=n then
  let s:=st.fix p.fx
  let m:=zvz L (p.ds.map s.slot) s.blk
  if m.length=ps.length then match zju ps (zad m 0 s.blks) with
   | some xs=>match q.P ((p.ds.map fun d=>(s.slot d).re (zph m))++xs) with
    | some (a,[])=>some a
    | _=>none
   | none=>none
  else none
 else none
def stP {α:Type} (q:LQ α) (n N:Nat) (p:Pat) (ps:List BS) (a:α):St :=
 ⟨n,p.ds.zip (q.e a),zeg ps ((q.e a).drop p.ds.length)++List.replicate N .free⟩
theorem zaqy (f:Nat→AV):∀ (ds:List Nat) (ys:List AV),(∀ i,i < ds.length→Norm (f (ds.getD i 0)) (ys.getD i .any))→ds.length≤ys.length→∀ d,
  (d∈ds∧Norm (f d) (lk (ds.zip ys) d))∨(d∉ds∧lk (ds.zip ys) d=.any)
 | [],_,_,_,d=>.inr ⟨by simp,rfl⟩
 | x::ds,[],_,h,d=>by simp at h
 | x::ds,y::ys,h,hl,d=>by
  simp only[List.zip_cons_cons,lk]
  by_cases e:d=x
  ·subst e
   rw[if_pos rfl]
   exact .inl ⟨by simp,h 0 (by simp)⟩
  ·rw[if_neg e]
   rcases zaqy f ds ys (fun i hi=>by simpa using h (i+1) (by simpa using hi)) (by simpa using hl) d with ⟨h1,h2⟩ | ⟨h1,h2⟩
   ·exact .inl ⟨List.mem_cons_of_mem _ h1,h2⟩
   ·exact .inr ⟨by simp[e,h1],h2⟩
theorem zacu (m:List Nat) (N:Nat) (blks:List Blk):zad m N blks=zad m 0 blks++List.replicate N Blk.free:=by unfold zad;simp
theorem zafx {ps:List BS} {m:List Nat} {N:Nat} {blks:List Blk} {xs ys:List AV} (hl:m.length=ps.length) (h:zju ps (zad m 0 blks)=some xs) (hn:NormL xs ys) :
  ∀ k,BN ((zad m N blks).getD k .dead) ((zeg ps ys++List.replicate N Blk.free).getD k .dead):=by
 obtain ⟨rest,h1,h2⟩:=z1e h hn
 have hcl:(zad m 0 blks).length=ps.length:=by simp[zad,hl]
 intro k
 rw[zacu]
 by_cases hk:k < ps.length
 ·rw[yy0,List.getElem?_append_left (by omega),yy0,List.getElem?_append_left (by rw[zh0];exact hk),← yy0,← yy0]
  exact h2 k hk
 ·rw[yy0,List.getElem?_append_right (by omega),yy0,List.getElem?_append_right (by rw[zh0];omega),hcl,zh0]
  exact .same
theorem z3a {l1 l2 ys:List AV} (h:NormL (l1++l2) ys):(∀ i,i < l1.length→Norm (l1.getD i .any) (ys.getD i .any))∧l1.length≤ys.length∧NormL l2 (ys.drop l1.length):=by
 refine ⟨fun i hi=>?_,?_,?_⟩
 ·have:=h.2 i (by simp;omega)
  rwa [yy0,List.getElem?_append_left hi,← yy0] at this
 ·have:=h.1;simp at this;omega
 ·have:=h.drop l1.length
  rwa [List.drop_left' rfl] at this
theorem zake {α:Type} {q:LQ α} {n L:Nat} {p:Pat} {ps:List BS} {st:St} {a:α} (h:decP q n L p ps st=some a) {G:Gl} (hG:zanu G L) {x:Act} {w:World} (hi:Inv G st x w) (N:Nat) :
  Inv G (stP q n N p ps a) x w:=by
 have hc:=hi.canon hG N p
 unfold decP at h
 split at h
 ·rename_i hn
  simp only at h
  split at h
  ·rename_i hl
   split at h
   ·rename_i xs hf
    split at h
    ·rename_i a' hq
     simp only[yy1] at h
     subst h
     obtain ⟨l1,e1,hnorm⟩:=q.ok _ _ _ hq
     rw[List.append_nil] at e1
     rw[← e1] at hnorm
     obtain ⟨k1,k2,k3⟩:=z3a hnorm
     rw[List.length_map] at k1 k2 k3
     obtain ⟨nu,hinv⟩:=hc
     obtain ⟨m1,m2⟩:=hinv.mem.weaken (zafx (N:=N) hl hf k3)
     refine ⟨nu,m1,hinv.size.trans hn,hinv.defers,fun d hd=>?_⟩
     have hs:=hinv.slots d (by show d < st.n;rw[hn];exact hd)
     have e2:(stP q n N p ps a').slot d=lk (p.ds.zip (q.e a')) d:=if_pos hd
     have e3:(st.canon N L p).slot d=if d∈p.ds then ((st.fix p.fx).slot d).re (zph (zvz L (p.ds.map (st.fix p.fx).slot) (st.fix p.fx).blk)) else .any :=
      (if_pos (show d < st.n by rw[hn];exact hd)).trans (zal6 (fun d=>((st.fix p.fx).slot d).re (zph (zvz L (p.ds.map (st.fix p.fx).slot) (st.fix p.fx).blk))) p.ds d)
     rw[e2]
     rw[e3] at hs
     rcases zaqy (fun d=>((st.fix p.fx).slot d).re (zph (zvz L (p.ds.map (st.fix p.fx).slot) (st.fix p.fx).blk))) p.ds (q.e a') (fun i hi=>by
       have:=k1 i hi
       rwa [zo6 (fun d=>((st.fix p.fx).slot d).re (zph (zvz L (p.ds.map (st.fix p.fx).slot) (st.fix p.fx).blk))) p.ds i 0 .any hi] at this) k2 d with ⟨h1,h2⟩ | ⟨h1,h2⟩
     ·rw[if_pos h1] at hs
      exact m2 _ _ (hs.norm h2)
     ·rw[h2];exact .any
    ·cases h
   ·cases h
  ·cases h
 ·cases h
def z1v {σ ρ:Type} (F:σ→Option (σ⊕ρ)):Nat→σ→Option ρ
 | 0,_=>none
 | n+1,s=>match F s with
  | none=>none
  | some (.inl s')=>z1v F n s'
  | some (.inr r)=>some r
open Classical in
noncomputable def zbp {σ ρ:Type} (F:σ→Option (σ⊕ρ)) (s:σ):Option ρ:=if h:∃ r n,z1v F n s=some r then some (Classical.choose h) else none
theorem z6w {σ ρ:Type} {F:σ→Option (σ⊕ρ)}:∀ {n:Nat} {s:σ} {r:ρ} (k:Nat),z1v F n s=some r→z1v F (n+k) s=some r
 | 0,s,r,k,h=>by cases h
 | n+1,s,r,k,h=>by
  rw[show n+1+k=(n+k)+1 by omega]
  simp only[z1v] at h ⊢
  split at h
  ·cases h
  ·exact z6w k h
  ·exact h
theorem zaqz {σ ρ:Type} {F:σ→Option (σ⊕ρ)} {n m:Nat} {s:σ} {r r':ρ} (h:z1v F n s=some r) (h':z1v F m s=some r'):r=r':=by
 have h1:=z6w m h
 have h2:=z6w n h'
 rw[Nat.add_comm] at h2
 rw[h1] at h2
 exact Option.some.inj h2
theorem z4w {σ ρ:Type} {F:σ→Option (σ⊕ρ)} {s:σ} {r:ρ} (h:zbp F s=some r):∃ n,z1v F n s=some r:=by
 unfold zbp at h
 split at h
 ·rename_i hx
  simp only[yy1] at h
  rw[← h]
  exact Classical.choose_spec hx
 ·cases h
theorem zakf {σ ρ:Type} {F:σ→Option (σ⊕ρ)} {s:σ} {r:ρ} {n:Nat} (h:z1v F n s=some r):zbp F s=some r:=by
 have hx:∃ r n,z1v F n s=some r:=⟨r,n,h⟩
 unfold zbp
 rw[dif_pos hx]
 obtain ⟨m,hm⟩:=Classical.choose_spec hx
 rw[zaqz hm h]
theorem zw4 {σ ρ:Type} {F:σ→Option (σ⊕ρ)} (s:σ):zbp F s=match F s with
  | none=>none
  | some (.inl s')=>zbp F s'
  | some (.inr r)=>some r:=by
 cases hF:F s with
 | none =>
  cases h:zbp F s with
  | none=>rfl
  | some r =>
   obtain ⟨n,hn⟩:=z4w h
   cases n with
   | zero=>cases hn
   | succ n=>simp[z1v,hF] at hn
 | some x =>
  cases x with
  | inr r=>exact zakf (n:=1) (by simp[z1v,hF])
  | inl s' =>
   simp only
   cases h:zbp F s' with
   | some r =>
    obtain ⟨n,hn⟩:=z4w h
    exact zakf (n:=n+1) (by simp[z1v,hF,hn])
   | none =>
    cases h':zbp F s with
    | none=>rfl
    | some r =>
     obtain ⟨n,hn⟩:=z4w h'
     cases n with
     | zero=>cases hn
     | succ n =>
      simp only[z1v,hF] at hn
      rw[zakf hn] at h;cases h
structure End (ρ:Type) where
 β:Type
 q:LQ β
 p:Pat
 ps:List BS
 wrap:β→ρ
def z8r {ρ:Type} (n L:Nat) (E:Exit→Option (End ρ)) (e:Exit) (s:St):Tr ρ :=
 match E e with
 | some d=>match decP d.q n L d.p d.ps s with
  | some b=>.leaf (d.wrap b)
  | none=>.fail
 | none=>.fail
def zaai {ρ:Type} (n N:Nat) (E:Exit→Option (End ρ)) (out:ρ→Exit×St):Prop :=
 ∀ e d,E e=some d→∀ b,out (d.wrap b)=(e,stP d.q n N d.p d.ps b)
theorem zah2 {ρ:Type} {n L N:Nat} {E:Exit→Option (End ρ)} {out:ρ→Exit×St} (hE:zaai n N E out) {e:Exit} {s:St} {r:ρ} (h:(z8r n L E e s).all (fun x=>x=r)) {G:Gl} (hG:zanu G L) {x:Act} {w:World}
  (hi:Inv G s x w):e=(out r).1∧Inv G (out r).2 x w:=by
 unfold z8r at h
 split at h
 ·rename_i d hd
  split at h
  ·rename_i b hb
   have hr:d.wrap b=r:=h
   have:=hE e d hd b
   rw[hr] at this
   rw[this]
   exact ⟨rfl,zake hb hG hi N⟩
  ·exact h.elim
 ·exact h.elim
def zab:Code→Code
 | .loop c=>c
 | c=>c
def zaq0:Code→Operand
 | .cond o _ _=>o
 | _=>.tmp 0
def zaq1:Code→Code
 | .cond _ c _=>c
 | c=>c
def zaq2:Code→Code
 | .cond _ _ d=>d
 | c=>c
noncomputable def z72 {σ ρ:Type} (q:LQ σ) (n L:Nat) (p:Pat) (ps:List BS) (R:Option ρ→LR) (f:σ→Option ρ) (st:St):Option LR :=
 match decP q n L p ps st with
 | some a=>some (R (f a))
 | none=>none
section pieces
variable {Y:EnvT} {A:Ann}
theorem zaq3 (hY:Y.Ok) (hm:Y.P.follows .mixedOrders=true) {root:Code} {L:Nat} (hA:zzf Y.env L root A.cut) {π:List Nat} {c:Code} (hc:sub root π=.loop c)
  {σ ρ:Type} (q:LQ σ) (n N:Nat) (p:Pat) (ps:List BS) (E:Exit→Option (End (σ⊕ρ))) (T:σ→Tr (σ⊕ρ)) (out:σ⊕ρ→Exit×St) (hE:zaai n N E out)
  (h1:∀ b,out (.inl b)=(.normal,stP q n N p ps b)) (h2:∀ r,(out (.inr r)).1≠.normal) (R:Option ρ→LR) (hR:∀ o Q,(R o).all Q→∃ r,o=some r∧Q (out (.inr r)).1 (out (.inr r)).2)
  (hT:∀ a,absC Y A c (0::π) (stP q n N p ps a) (z8r n L E)=T a) :
  zk Y.env L (sub root π) (z72 q n L p ps R (fun a=>zbp (fun s=>(T s).run) a)):=by
 rw[hc];unfold z72
 intro st R' hst G hG Q hQ
 simp only at hst
 split at hst
 ·rename_i a ha
  simp only[yy1] at hst
  subst hst
  obtain ⟨r,hr,hq⟩:=hR _ _ hQ
  obtain ⟨n0,hn0⟩:=z4w hr
  intro x w hi
  refine wp_loop_ghost (fun k x w=>∃ a,z1v (fun s=>(T s).run) k a=some r∧Inv G (stP q n N p ps a) x w) n0 ⟨a,hn0,zake ha hG hi N⟩ ?_
  rintro k x w ⟨a,hk,hinv⟩
  cases k with
  | zero=>cases hk
  | succ k =>
   simp only[z1v] at hk
   have body:∀ y,(T a).run=some y→c.wp Y.P (fun e x' w'=>e=(out y).1∧Inv G (out y).2 x' w') x w:=by
    intro y hy
    have h3:=Tr.run_all _ hy
    rw[← hT a] at h3
    refine wp_mono (zh1 hY hm hG hA c (0::π) (by rw[sub,hc];rfl) _ _ h3 x w hinv) fun e x' w' hq'=>?_
    obtain ⟨s,k1,k2⟩:=hq'
    exact zah2 hE k1 hG k2
   split at hk
   ·cases hk
   ·rename_i s' hs
    refine wp_mono (body _ hs) fun e x' w' hq'=>?_
    rw[h1] at hq'
    obtain ⟨rfl,k2⟩:=hq'
    exact ⟨k,Nat.lt_succ_self k,s',hk,k2⟩
   ·rename_i r' hs
    simp only[yy1] at hk
    subst hk
    refine wp_mono (body _ hs) fun e x' w' hq'=>?_
    obtain ⟨e1,k2⟩:=hq'
    have hne:=h2 r'
    have:∃ st',Q e st'∧Inv G st' x' w':=⟨_,e1 ▸ hq,k2⟩
    rw[← e1] at hne
    cases e<;>first
     | exact absurd rfl hne
     | exact this
 ·cases hst
theorem zaq4 (hY:Y.Ok) (hm:Y.P.follows .mixedOrders=true) {root:Code} {L:Nat} (hA:zzf Y.env L root A.cut) {π:List Nat} {cd:Operand} {c d:Code} (hc:sub root π=.cond cd c d)
  {σ ρ:Type} (q:LQ σ) (n N:Nat) (p:Pat) (ps:List BS) (E:Exit→Option (End ρ)) (T:σ→Tr ρ) (out:ρ→Exit×St) (hE:zaai n N E out) (R:Option ρ→LR) (hR:∀ o Q,(R o).all Q→∃ r,o=some r∧Q (out r).1 (out r).2)
  (hT:∀ a,zanv false (stP q n N p ps a) (zaqj (stP q n N p ps a) cd) (absC Y A c (0::π) (stP q n N p ps a) (z8r n L E)) (absC Y A d (1::π) (stP q n N p ps a) (z8r n L E))=T a) :
  zk Y.env L (sub root π) (z72 q n L p ps R (fun a=>(T a).run)):=by
 rw[hc];unfold z72
 intro st R' hst G hG Q hQ
 simp only at hst
 split at hst
 ·rename_i a ha
  simp only[yy1] at hst
  subst hst
  obtain ⟨r,hr,hq⟩:=hR _ _ hQ
  intro x w hi
  have h3:=Tr.run_all _ hr
  rw[← hT a] at h3
  have h4:Wp Y.env G (.cond cd c d) (stP q n N p ps a) (fun e s=>(z8r n L E e s).all (fun x=>x=r)) :=
   z98 h3 (zh1 hY hm hG hA c (0::π) (by rw[sub,hc];rfl) _ _) (zh1 hY hm hG hA d (1::π) (by rw[sub,hc];rfl) _ _)
  refine wp_mono (h4 x w (zake ha hG hi N)) fun e x' w' hq'=>?_
  obtain ⟨s,k1,k2⟩:=hq'
  obtain ⟨k3,k4⟩:=zah2 hE k1 hG k2
  exact ⟨_,k3 ▸ hq,k4⟩
 ·cases hst
structure EndD (β:Type) where
 q:LQ β
 p:Pat
 s:List BS
def EndD.at {β:Type} (d:EndD β) (n N:Nat) (v:β):St:=stP d.q n N d.p d.s v
def exEq:Exit→Exit→Bool
 | .normal,.normal=>true
 | .ret,.ret=>true
 | .exit a,.exit b=>Nat.beq a b
 | _,_=>false
omit Y A in
theorem zzh {a b:Exit} (h:exEq a b=true):a=b:=by
 cases a<;>cases b<;>first
  | rfl
  | (simp only[exEq] at h;rw[Nat.eq_of_beq_eq_true h])
  | (simp[exEq] at h)
omit Y A in
theorem zakh {a:Exit} (h:exEq a .normal=false):a≠.normal:=by rintro rfl;cases h
section ends
variable {σ β γ:Type} (n N L:Nat) (a:EndD σ) (x:Exit) (b:EndD β) (y:Exit) (c:EndD γ)
def E1 (e:Exit):Option (End (σ⊕β)):=match exEq e .normal with
 | true=>some ⟨σ,a.q,a.p,a.s,.inl⟩
 | false=>match exEq e x with
  | true=>some ⟨β,b.q,b.p,b.s,.inr⟩
  | false=>none
def E2 (e:Exit):Option (End (σ⊕(β⊕γ))):=match exEq e .normal with
 | true=>some ⟨σ,a.q,a.p,a.s,.inl⟩
 | false=>match exEq e x with
  | true=>some ⟨β,b.q,b.p,b.s,fun v=>.inr (.inl v)⟩
  | false=>match exEq e y with
   | true=>some ⟨γ,c.q,c.p,c.s,fun v=>.inr (.inr v)⟩
   | false=>none
def J1 (e:Exit):Option (End β):=match exEq e x with
 | true=>some ⟨β,b.q,b.p,b.s,fun v=>v⟩
 | false=>none
def J2 (e:Exit):Option (End (β⊕γ)):=match exEq e x with
 | true=>some ⟨β,b.q,b.p,b.s,.inl⟩
 | false=>match exEq e y with
  | true=>some ⟨γ,c.q,c.p,c.s,.inr⟩
  | false=>none
def O1:σ⊕β→Exit×St
 | .inl v=>(.normal,a.at n N v)
 | .inr v=>(x,b.at n N v)
def O2:σ⊕(β⊕γ)→Exit×St
 | .inl v=>(.normal,a.at n N v)
 | .inr (.inl v)=>(x,b.at n N v)
 | .inr (.inr v)=>(y,c.at n N v)
def P1 (v:β):Exit×St:=(x,b.at n N v)
def P2:β⊕γ→Exit×St
 | .inl v=>(x,b.at n N v)
 | .inr v=>(y,c.at n N v)
omit Y A in
theorem zbd3:zaai n N (E1 a x b) (O1 n N a x b):=by
 intro e d h v
 unfold E1 at h
 split at h
 ·rename_i he;cases h;rw[zzh he];rfl
 ·split at h
  ·rename_i he;cases h;rw[zzh he];rfl
  ·cases h
omit Y A in
theorem zbd4:zaai n N (E2 a x b y c) (O2 n N a x b y c):=by
 intro e d h v
 unfold E2 at h
 split at h
 ·rename_i he;cases h;rw[zzh he];rfl
 ·split at h
  ·rename_i he;cases h;rw[zzh he];rfl
  ·split at h
   ·rename_i he;cases h;rw[zzh he];rfl
   ·cases h
omit Y A in
theorem zbd5:zaai n N (J1 x b) (P1 n N x b):=by
 intro e d h v
 unfold J1 at h
 split at h
 ·rename_i he;cases h;rw[zzh he];rfl
 ·cases h
omit Y A in
theorem zbd6:zaai n N (J2 x b y c) (P2 n N x b y c):=by
 intro e d h v
 unfold J2 at h
 split at h
 ·rename_i he;cases h;rw[zzh he];rfl
 ·split at h
  ·rename_i he;cases h;rw[zzh he];rfl
  ·cases h
noncomputable def L1 (T:σ→Tr (σ⊕β)):St→Option LR:=z72 a.q n L a.p a.s (fun o=>LR.one o (fun r=>(x,b.at n N r))) (fun v=>zbp (fun s=>(T s).run) v)
noncomputable def L2 (T:σ→Tr (σ⊕(β⊕γ))):St→Option LR:=z72 a.q n L a.p a.s (fun o=>LR.two o (fun r=>(x,b.at n N r)) (fun r=>(y,c.at n N r))) (fun v=>zbp (fun s=>(T s).run) v)
noncomputable def M1 (T:σ→Tr β):St→Option LR:=z72 a.q n L a.p a.s (fun o=>LR.one o (fun r=>(x,b.at n N r))) (fun v=>(T v).run)
noncomputable def M2 (T:σ→Tr (β⊕γ)):St→Option LR:=z72 a.q n L a.p a.s (fun o=>LR.two o (fun r=>(x,b.at n N r)) (fun r=>(y,c.at n N r))) (fun v=>(T v).run)
end ends
theorem zb2 (hY:Y.Ok) (hm:Y.P.follows .mixedOrders=true) {root:Code} {L:Nat} (hA:zzf Y.env L root A.cut) {π:List Nat} {k:Code} (hc:sub root π=.loop k) {σ β:Type} {n N:Nat} {a:EndD σ} {x:Exit} {b:EndD β}
  (hx:exEq x .normal=false) {T:σ→Tr (σ⊕β)} (hT:∀ v,absC Y A k (0::π) (a.at n N v) (z8r n L (E1 a x b))=T v):zk Y.env L (sub root π) (L1 n N L a x b T) :=
 zaq3 hY hm hA hc a.q n N a.p a.s (E1 a x b) T (O1 n N a x b) (zbd3 n N a x b) (fun _=>rfl) (fun _=>zakh hx) _ (fun _ _ ⟨v,h1,h2⟩=>⟨v,h1,h2⟩) hT
theorem zkf (hY:Y.Ok) (hm:Y.P.follows .mixedOrders=true) {root:Code} {L:Nat} (hA:zzf Y.env L root A.cut) {π:List Nat} {k:Code} (hc:sub root π=.loop k) {σ β γ:Type} {n N:Nat} {a:EndD σ} {x:Exit} {b:EndD β} {y:Exit} {c:EndD γ}
  (hx:exEq x .normal=false) (hy:exEq y .normal=false) {T:σ→Tr (σ⊕(β⊕γ))} (hT:∀ v,absC Y A k (0::π) (a.at n N v) (z8r n L (E2 a x b y c))=T v):zk Y.env L (sub root π) (L2 n N L a x b y c T) :=
 zaq3 hY hm hA hc a.q n N a.p a.s (E2 a x b y c) T (O2 n N a x b y c) (zbd4 n N a x b y c) (fun _=>rfl) (fun r=>by cases r;exact zakh hx;exact zakh hy) _
  (fun _ _ h=>Or.elim h (fun ⟨v,h1,h2⟩=>⟨_,h1,h2⟩) (fun ⟨v,h1,h2⟩=>⟨_,h1,h2⟩)) hT
theorem za08 (hY:Y.Ok) (hm:Y.P.follows .mixedOrders=true) {root:Code} {L:Nat} (hA:zzf Y.env L root A.cut) {π:List Nat} {cd:Operand} {k l:Code} (hc:sub root π=.cond cd k l) {σ β:Type} {n N:Nat} {a:EndD σ} {x:Exit} {b:EndD β}
  {T:σ→Tr β} (hT:∀ v,zanv false (a.at n N v) (zaqj (a.at n N v) cd) (absC Y A k (0::π) (a.at n N v) (z8r n L (J1 x b))) (absC Y A l (1::π) (a.at n N v) (z8r n L (J1 x b)))=T v):zk Y.env L (sub root π) (M1 n N L a x b T) :=
 zaq4 hY hm hA hc a.q n N a.p a.s (J1 x b) T (P1 n N x b) (zbd5 n N x b) _ (fun _ _ ⟨v,h1,h2⟩=>⟨v,h1,h2⟩) hT
theorem za46 (hY:Y.Ok) (hm:Y.P.follows .mixedOrders=true) {root:Code} {L:Nat} (hA:zzf Y.env L root A.cut) {π:List Nat} {cd:Operand} {k l:Code} (hc:sub root π=.cond cd k l) {σ β γ:Type} {n N:Nat} {a:EndD σ} {x:Exit} {b:EndD β} {y:Exit} {c:EndD γ}
  {T:σ→Tr (β⊕γ)} (hT:∀ v,zanv false (a.at n N v) (zaqj (a.at n N v) cd) (absC Y A k (0::π) (a.at n N v) (z8r n L (J2 x b y c))) (absC Y A l (1::π) (a.at n N v) (z8r n L (J2 x b y c)))=T v):zk Y.env L (sub root π) (M2 n N L a x b y c T) :=
 zaq4 hY hm hA hc a.q n N a.p a.s (J2 x b y c) T (P2 n N x b y c) (zbd6 n N x b y c) _
  (fun _ _ h=>Or.elim h (fun ⟨v,h1,h2⟩=>⟨_,h1,h2⟩) (fun ⟨v,h1,h2⟩=>⟨_,h1,h2⟩)) hT
end pieces
def finF {ρ:Type} (P:Program) (fn:Func) (Lc:Nat) (fx:List Fx) (q:LQ ρ) (ps:List BS) (s:St):Option ρ :=
 let s1:=s.fix fx
 match z4t P s1 fn.results.toList with
 | some xs =>
  let m:=zvz Lc xs s1.blk
  if m.length=ps.length then match zju ps (zad m 0 s1.blks) with
   | some zs=>match q.P (AV.reL (zph m) xs++zs) with
    | some (r,[])=>some r
    | _=>none
   | none=>none
  else none
 | none=>none
def za47 {ρ:Type} (P:Program) (fn:Func) (Lc:Nat) (fx:List Fx) (q:LQ ρ) (ps:List BS) (e:Exit) (s:St):Tr ρ :=
 match e with
 | .ret=>match finF P fn Lc fx q ps s with
  | some r=>.leaf r
  | none=>.fail
 | .normal=>match finF P fn Lc fx q ps s with
  | some r=>.leaf r
  | none=>.fail
 | _=>.fail
def zamj {α:Type} (fn:Func) (N:Nat) (q:LQ α) (na:Nat) (ps:List BS) (a:α):St :=
 ⟨fn.ntmps,(List.range na).zip (q.e a),zeg ps ((q.e a).drop na)++List.replicate N .free⟩
def zaq5 (m:List Nat) (Lc id k:Nat):Nat:=if k < Lc then m.getD k 0 else id+(k - Lc)
def z3b (m:List Nat) (Lc id k:Nat):Option Nat:=some (zaq5 m Lc id k)
def zri (bk:Nat→Blk) (id:Nat):Nat→Bool
 | 0=>true
 | n+1=>(match bk id with | .free=>true | _=>false)&&zri bk (id+1) n
theorem zzi {bk:Nat→Blk}:∀ {n id:Nat},zri bk id n=true→∀ i,id≤i→i < id+n→bk i=.free
 | 0,id,_,i,h1,h2=>by omega
 | n+1,id,h,i,h1,h2=>by
  simp only[zri,yy7] at h
  by_cases e:i=id
  ·subst e
   have:=h.1
   split at this
   ·assumption
   ·cases this
  ·exact zzi h.2 i (by omega) (by omega)
def z13 (m:List Nat) (Lc id nout:Nat) (fb:List Blk):List (Nat×Blk) :=
 (List.range Lc).map (fun k=>(m.getD k 0,(fb.getD k .dead).re (z3b m Lc id))) ++
 ((m.drop Lc).map (fun i=>(i,.dead)) ++
 (List.range nout).map (fun k=>(id+k,(fb.getD (Lc+k) .dead).re (z3b m Lc id))))
noncomputable def zm {α ρ:Type} (Lc:Nat) (qa:LQ α) (na:Nat) (ps:List BS) (T:α→Tr ρ) (d:ρ) (qr:LQ ρ) (nr:Nat) (psr:List BS):SpecT:=fun args bk id =>
 let m:=zvz 0 args bk
 if args.length=na∧m.length=ps.length then match zju ps (m.map fun i=>(bk i).re (zph m)) with
  | some xs=>match qa.P (AV.reL (zph m) args++xs) with
   | some (a,[])=>if zri bk id (psr.length - Lc)=true then
     some ⟨ρ,(T a).run,d,fun r=>(tuple ((qr.e r).take nr)).re (z3b m Lc id),fun r=>z13 m Lc id (psr.length - Lc) (zeg psr ((qr.e r).drop nr))⟩
    else none
   | _=>none
  | none=>none
 else none
theorem z4x {P:Program} {st:St}:∀ {l:List ResultVar} {xs:List AV},z4t P st l=some xs→xs.length=l.length
 | [],xs,h=>by
  simp only[z4t,yy1] at h
  subst h;rfl
 | r::l,xs,h=>by
  simp only[z4t] at h
  split at h
  ·rename_i x xs' h1 h2
   simp only[yy1] at h
   subst h
   simp[z4x h2]
  ·cases h
theorem zat1 (f:Nat→Option Nat) (l:List AV):(tuple l).re f=tuple (AV.reL f l):=by
 cases l with
 | nil=>rfl
 | cons x l=>cases l<;>rfl
theorem zan2 {l m:List AV} (h:NormL l m):Norm (tuple l) (tuple m):=by
 obtain ⟨hl,hi⟩:=h
 match l,m,hl,hi with
 | [],[],_,_=>exact .refl
 | [x],[y],_,hi=>exact hi 0 (by simp)
 | x::x'::l,y::y'::m,hl,hi=>exact .tup hl hi
 | [],_::_,hl,_=>simp at hl
 | _::_,[],hl,_=>simp at hl
 | [_],_::_::_,hl,_=>simp at hl
 | _::_::_,[_],hl,_=>simp at hl
theorem zaq6:∀ (bs:List (Nat×Blk)) (l:List Blk),(bs.map (·.1)).Nodup→∀ j x,(j,x)∈bs→j < l.length→(upd l bs).getD j .dead=x
 | [],_,_,_,_,h,_=>by cases h
 | p::bs,l,hnd,j,x,h,hj=>by
  simp only[List.map_cons,List.nodup_cons] at hnd
  show (upd (l.set p.1 p.2) bs).getD j .dead=x
  rcases List.mem_cons.1 h with e | e
  ·rw[z9f bs _ (fun q hq e'=>hnd.1 (by rw[← e] ;exact List.mem_map.2 ⟨q,hq,e'⟩))]
   rw[← e]
   exact z9 hj
  ·exact zaq6 bs _ hnd.2 j x e (by rw[List.length_set];exact hj)
theorem z1h:∀ {ps:List BS} {bs:List Blk} {xs:List AV},zju ps bs=some xs→∀ k,k < ps.length→(ps.getD k .gone=.gone)∨(bs.getD k .dead).live=true
 | [],_,_,_,k,hk=>absurd hk (Nat.not_lt_zero k)
 | .cells T n::ps,.cells T' cs::bs,xs,h,k,hk=>by
  simp only[zju] at h
  split at h
  ·split at h
   ·rename_i zs hz
    cases k with
    | zero=>exact .inr rfl
    | succ k=>exact z1h hz k (by simpa using hk)
   ·cases h
  ·cases h
 | .rows E::ps,.rows E' s::bs,xs,h,k,hk=>by
  simp only[zju] at h
  split at h
  ·split at h
   ·rename_i zs hz
    cases k with
    | zero=>exact .inr rfl
    | succ k=>exact z1h hz k (by simpa using hk)
   ·cases h
  ·cases h
 | .gone::ps,b::bs,xs,h,k,hk=>by
  simp only[zju] at h
  cases k with
  | zero=>exact .inl rfl
  | succ k=>exact z1h h k (by simpa using hk)
 | .cells _ _::_,[],_,h,_,_=>by simp[zju] at h
 | .rows _::_,[],_,h,_,_=>by simp[zju] at h
 | .gone::_,[],_,h,_,_=>by simp[zju] at h
 | .cells _ _::_,.dead::_,_,h,_,_ | .cells _ _::_,.free::_,_,h,_,_ | .cells _ _::_,.rows _ _::_,_,h,_,_ | .cells _ _::_,.pub _::_,_,h,_,_ | .cells _ _::_,.bit _ _::_,_,h,_,_=>by simp[zju] at h
 | .rows _::_,.dead::_,_,h,_,_ | .rows _::_,.free::_,_,h,_,_ | .rows _::_,.cells _ _::_,_,h,_,_ | .rows _::_,.pub _::_,_,h,_,_ | .rows _::_,.bit _ _::_,_,h,_,_=>by simp[zju] at h
theorem za09 {b b':Blk} (h:BN b b') (hl:b'.live=true):b.live=true:=by
 cases h with
 | dead=>cases hl
 | same=>exact hl
 | cells=>rfl
theorem zaq7 {α:Type} {l:List α} {i:Nat} {d:α} (h:l.getD i d≠d):i < l.length:=by
 rcases Nat.lt_or_ge i l.length with h1 | h1
 ·exact h1
 ·exact absurd (by rw[yy0,List.getElem?_eq_none h1];rfl) h
theorem za1a {blks:List Blk} {i:Nat} (h:(blks.getD i .dead).live=true):i < blks.length:=zaq7 (fun e=>by rw[e] at h;cases h)
theorem zad3 {C C':Cx} {base j:Nat} {x:Blk} (f:Nat→Option Nat) (hcell:∀ a v,¬ C.L a.block→C.w.cell? a=some v→C'.w.cell? a=some v∧¬ C'.L a.block)
  (hnu:∀ i k u,f i=some k→C.nu i=some u→C'.nu k=some u) (hw:C'.w=C.w) {j':Nat} (hj:C'.nu j'=C.nu j) (h:BlkOk C base j x):BlkOk C' base j' (x.re f):=by
 cases x with
 | dead=>trivial
 | free=>exact hj.trans h
 | cells T cs =>
  obtain ⟨b,vs,e1,e2,e3⟩:=h
  exact ⟨b,vs,hj.trans e1,by rw[hw];exact e2,e3.rename (fun x v=>Rd.rename hcell hnu)⟩
 | rows E s =>
  obtain ⟨v,vs,e1,e2,e3,e4⟩:=h
  exact ⟨v,vs,hj.trans e1,by rw[hw];exact e2,fun k c hk hc=>(e3 k c hk hc).change (p:=fun _=>true) hcell (fun i u hi=>by cases hi) (zjv _ s k c hc),e4⟩
 | pub s =>
  obtain ⟨v,e1,e2⟩:=h
  exact ⟨v,hj.trans e1,Rd.rename (x:=.sl s) hcell hnu e2⟩
 | bit p q =>
  obtain ⟨b,e1,e2⟩:=h
  exact ⟨b,hj.trans e1,e2⟩
