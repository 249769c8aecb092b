/-
  The walk over abstract states.
-/
import Derived.Test.YtiacgjebngnddaaGreatXAbSort
import Derived.Sort.OwnSortedInts
namespace Go.Proofs.YtiacgjebngnddaaGreat.Ab
open Go Go.RowKit Go.Sort Go.Proofs Go.Lib
set_option linter.unusedVariables false
set_option linter.unusedSimpArgs false
theorem zao2:SWO ltN where
 irrefl:=fun x=>by simp[ltN]
 trans:=fun x y z h1 h2=>by simp[ltN] at *;omega
 ntrans:=fun x y z h1 h2=>by simp[ltN] at *;omega
theorem zahc:SWO ltV where
 irrefl:=fun x=>by simp[ltV]
 trans:=fun x y z h1 h2=>by simp[ltV] at *;omega
 ntrans:=fun x y z h1 h2=>by simp[ltV] at *;omega
def z1z (lt:Power→Power→Bool) (l:List Power):Option (List Power):=if l.length≤12 then some (Sort.insertionSort lt l.toArray 0 l.length).toList else none
theorem z8f {w:World} {g n:Nat} {os:Array Obj} {cur:Array Value} {e:TypeId} {fr:Nat×Nat} (d:Array Value) (hb:w.heap[g]?=some (.cells cur e fr)) :
  (grow (putRow id (Sort.ahead w n) g 0 d) os).heap[g]?=some (.cells (putCells id 0 d cur) e fr):=by
 have hg:g < w.heap.size:=(Array.getElem?_eq_some_iff.1 hb).1
 rw[heap_grow_old _ _ (by simpa using hg)]
 simp[putRow,mapBlock,Sort.ahead,Array.getElem?_modify,hb,onCells]
theorem z10 {w:World} {g n:Nat} {os:Array Obj} (d:Array Value):w.grownBy (grow (putRow id (Sort.ahead w n) g 0 d) os) (some g):=by
 refine ⟨rfl,rfl,rfl,by simp,fun k hk hne=>?_⟩
 rw[heap_grow_old _ _ (by simpa using hk)]
 have:g≠k:=fun e=>hne (by rw[e])
 simp[putRow,mapBlock,Sort.ahead,Array.getElem?_modify,this]
theorem z8g {w:World} {os:Array Obj} (r:Option Nat):w.grownBy (grow w os) r :=
 ⟨rfl,rfl,rfl,by simp,fun k hk hne=>heap_grow_old _ _ hk⟩
theorem z35 (cur:Array Value) (d:Array Value) (h:d.size≤cur.size):(putCells id 0 d cur).toList.take d.size=d.toList:=by
 apply List.ext_getElem?
 intro j
 by_cases hj:j < d.size
 ·rw[List.getElem?_take_of_lt hj,Array.getElem?_toList]
  simp[putCells,hj,show j < cur.size by omega]
 ·rw[List.getElem?_take_eq_none (by omega),List.getElem?_eq_none (by simp;omega)]
theorem MInv.rewriteG {G:Gl} {blks:List Blk} {nu:Nat→Option Value} {w w':World} (h:MInv G blks nu w) {j:Nat} {v:Value} {E:TypeId} {s r:Sl} {vs':List Value} (hb:blks.getD j .dead=.rows E s) (hnj:nu j=some v)
  (hlen:r.len=s.len) (hsz:r.sz=s.sz) (hown:w'.ownsRow 0 E s.sz v s.len vs') (hrd:∀ C',(cx G blks nu w).Le C'→∀ k c,k < r.len→c < r.sz→Rd C' (r.cell k c) (vs'.getD (k*r.sz+c) undef)) (hm:s.len≤maxLen)
  (hg:w.grownBy w' (zcu v)) :
  (cx G blks nu w).Le (cx G (blks.set j (.rows E r)) nu w')∧MInv G (blks.set j (.rows E r)) nu w':=by
 have hj:j < blks.length:=by
  rcases Nat.lt_or_ge j blks.length with h1 | h1
  ·exact h1
  ·rw[yy0,List.getElem?_eq_none h1] at hb;cases hb
 have hl:(blks.getD j .dead).live=true:=by rw[hb];rfl
 refine h.step (fun i=>i=j) (fun _ _ h=>h) (fun k hk hn=>hg.block k hk fun e=>?_) hg.size hg.os hg.tape hg.output (fun i hi=>getD_set_ne (fun e=>hi e.symm)) (fun _ _=>rfl)
  (fun hle i hi=>?_) (fun i u k hi _ hv hk=>?_) (fun i i' u u' b hne hi hi'=>(hne (hi.trans hi'.symm)).elim)
 ·exact hn j v rfl hl hnj (zwf e.symm)
 ·subst hi
  rw[zp hj]
  exact ⟨_,vs',hnj,by rw[hsz,hlen];exact hown,hrd _ hle,by omega⟩
 ·have:=h.low j u k hl (hi ▸ hv) hk
  exact ⟨Nat.lt_of_lt_of_le this.1 hg.size,.inr ⟨j,u,rfl,hl,hi ▸ hv,hk⟩⟩
def zac6 (T:TypeId) (g:FuncId) (lt:Power→Power→Bool):SpecT:=fun args bk _=>match args with
 | [.iface T' j,.fn g' [.ptr c 0]]=>match bk j,bk c with
  | .rows E (.powers l),.cells _ [.own j']=>if T'=T∧g'=g∧j'=j then some ⟨List Power,z1z lt l,[],fun _=>.tup [],fun r=>[(j,.rows E (.powers r))]⟩ else none
  | _,_=>none
 | _=>none
theorem zahd {f:FuncId} {g:FuncId} {lt:Power→Power→Bool} (hO:SWO lt)
  (htiny:∀ (p:Option Addr) (n c:Nat),n≤1→∀ (lf:Fn) (la lb:Array Value) (w:World),Calls Tryz.prog f #[.iface 44 (.slice p n c),.func lf la lb] w fun e w'=>e=.returned (.tuple #[])∧∃ os,w'=grow w os)
  (hsort:∀ (blk Bs c:Nat) (d:Array Power) (w:World),w.cell? ⟨Bs,0,none⟩=some (.slice (some ⟨blk,0,none⟩) d.size c)→HoldsK znn 2 w blk 0 d→blk < w.heap.size→Bs≠blk→Bs < w.heap.size→2≤d.size→d.size≤12 →
   Calls Tryz.prog f #[.iface 44 (.slice (some ⟨blk,0,none⟩) d.size c),.func (.func g) #[] #[.pointer (some ⟨Bs,0,none⟩)]] w fun e w' =>
    e=.returned (.tuple #[])∧∃ n os,w'=grow (putRowK znn 2 (Sort.ahead w n) blk 0 (Sort.insertionSort lt d 0 d.size)) os) :
  zg Tryz.prog f (zac6 44 g lt).spec:=by
 intro G blks nu w hm args vs hvs bk hbk id r hr hobl
 unfold SpecT.spec at hr
 split at hr
 ·rename_i cr hcr
  simp only[yy1] at hr
  subst hr
  unfold zac6 at hcr
  split at hcr
  ·rename_i T' j g' c
   split at hcr
   ·rename_i E l U j' hbj hbc
    split at hcr
    ·rename_i hc
     obtain ⟨rfl,rfl,rfl⟩:=hc
     simp only[yy1] at hcr
     subst hcr
     have h12:l.length≤12:=by
      have:=hobl.1
      simp only[CR.res] at this
      unfold z1z at this
      split at this
      ·assumption
      ·cases this
     have hres:(CR.res ⟨List Power,z1z lt l,[],fun _=>.tup [],fun r=>[(j',.rows E (.powers r))]⟩).bs=[(j',.rows E (.powers (Sort.insertionSort lt l.toArray 0 l.length).toList))]:=by
      simp only[CR.res];unfold z1z;rw[if_pos h12];rfl
     have hbj':=zdp hbk hbj (by simp)
     have hbc':=zdp hbk hbc (by simp)
     obtain ⟨v1,vs1,rfl,r1,hvs1⟩:=hvs.uncons
     obtain ⟨v2,vs2,rfl,r2,hvs2⟩:=hvs1.uncons
     obtain rfl:=hvs2.unnil
     have hkj:=hm.ok j'
     rw[hbj'] at hkj
     obtain ⟨v,vs',e1,e2,e3,e4⟩:=hkj
     have hkc:=hm.ok c
     rw[hbc'] at hkc
     obtain ⟨B,us,f1,f2,f3⟩:=hkc
     obtain ⟨u,us1,rfl,ru,hus⟩:=f3.uncons
     obtain rfl:=hus.unnil
     have hu:u=v:=by
      cases ru with
      | own hn=>have:=hn.symm.trans e1;simpa using this
     subst hu
     cases r1 with
     | @iface _ _ v1' hn1 =>
      have hv1:v1'=u:=by have:=hn1.symm.trans e1;simpa using this
      subst hv1
      cases r2 with
      | @fn _ _ ws hwl hw =>
       obtain ⟨pv,ws1,rfl,rp,hws⟩:=Rds.uncons (C:=cx G blks nu w) ⟨hwl,hw⟩
       obtain rfl:=hws.unnil
       cases rp with
       | @ptr _ _ b' hn2 =>
        have hBb:b'=B:=by have:=hn2.symm.trans f1;simpa using this
        subst hBb
        have hX:=insertionSort_holds hO l.toArray 0 l.toArray.size (Nat.zero_le _) (Nat.le_refl _)
        have hsz:(Sort.insertionSort lt l.toArray 0 l.length).size=l.length:=by simpa using hX.1.1
        have hjc:j'≠c:=fun e=>by rw[e,hbc'] at hbj';cases hbj'
        have fin:∀ (w':World) (vs'':List Value),w'.ownsRow 0 E 2 v1' l.length vs''→(∀ C',(cx G blks nu w).Le C'→∀ k c,k < l.length→c < 2→Rd C' ((Sl.powers (Sort.insertionSort lt l.toArray 0 l.length).toList).cell k c) (vs''.getD (k*2+c) undef))→w.grownBy w' (zcu v1') →
          zf1 G blks nu w (CR.res ⟨List Power,z1z lt l,[],fun _=>.tup [],fun r=>[(j',.rows E (.powers r))]⟩) (.tuple #[]) w':=by
         intro w' vs'' ho hrd hg
         obtain ⟨m1,m2⟩:=hm.rewriteG (r:=.powers (Sort.insertionSort lt l.toArray 0 l.length).toList) hbj' e1 (by simp only[Sl.len,Array.length_toList];exact hsz) rfl ho
          (fun C' hle k c hk hc=>hrd C' hle k c (by simp only[Sl.len,Array.length_toList] at hk;omega) hc) e4 hg
         refine ⟨nu,?_,?_,?_⟩
         ·rw[hres];simpa[upd] using m1
         ·rw[hres];simpa[upd] using m2
         ·exact .tup (vs:=[]) rfl (fun i hi=>absurd hi (Nat.not_lt_zero i))
        rcases Nat.lt_or_ge 1 l.length with h2 | h2
        ·
         have hown:=e2
         obtain ⟨q1,q2⟩:=hown
         rcases q2 with ⟨_,h0⟩ | ⟨blk,cap,cur,rfl,q3,q4,q5,q6,q7,q8⟩
         ·exfalso;simp only[Sl.len] at h0;omega
         ·have hszr:(Sl.powers l).sz=2:=rfl
          have hlen:(Sl.powers l).len=l.length:=rfl
          rw[hszr,hlen] at q1 q8
          rw[hszr] at q7
          rw[hlen] at q5
          have hval:∀ t,t < l.length*2→vs'.getD t undef=(znn (l.toArray[t / 2]!))[t % 2]! := by
           intro t ht
           have hd:t / 2 < l.length:=by omega
           have:=e3 (t / 2) (t % 2) hd (Nat.mod_lt _ (by omega))
           rw[hszr,Nat.div_add_mod'] at this
           have hl:l.toArray[t / 2]! = l.getD (t / 2) default:=by
            rw[getElem!_pos _ _ (by simpa using hd),yy0,yy3 hd];rfl
           rw[hl]
           rcases Nat.mod_two_eq_zero_or_one t with hm2 | hm2
           ·rw[hm2] at this ⊢
            simp only[Sl.cell,Sl.row,Power.cells] at this
            generalize vs'.getD t undef=z at this
            cases this;rfl
           ·rw[hm2] at this ⊢
            simp only[Sl.cell,Sl.row,Power.cells] at this
            generalize vs'.getD t undef=z at this
            cases this;rfl
          have hcs:l.length*2≤cur.size:=by rw[q7];exact Nat.mul_le_mul_right _ q5
          have hH:HoldsK znn 2 w blk 0 l.toArray:=by
           intro t ht
           rw[size_flatK] at ht
           have ht':t < l.length*2:=by simpa using ht
           refine ⟨?_,by simp[World.frozen?,show w.heap[blk]?=_ from q4]⟩
           rw[get_flatK _ _ _ _ ht,← hval t ht',cell_of_row w blk (0+t) cur E (0,0) q4,Nat.zero_add,← q8,yy0,List.getElem?_take_of_lt ht']
           simp[show t < cur.size by omega]
          have hlb:=hm.low j' _ blk (by rw[hbj'];rfl) e1 (hasB_sl.2 rfl)
          have hlc:=hm.low c _ b' (by rw[hbc'];rfl) f1 (hasB_ptr.2 rfl)
          have hne:b'≠blk:=fun e=>hm.apart c j' _ _ b' (fun q=>hjc q.symm) (by rw[hbc'];rfl) (by rw[hbj'];rfl) f1 e1 (hasB_ptr.2 rfl) (hasB_sl.2 e.symm)
          have hcellB:w.cell? ⟨b',0,none⟩=some (.slice (some ⟨blk,0,none⟩) l.toArray.size cap):=by
           rw[cell_of_row w b' 0 _ U (0,0) f2];rfl
          refine (hsort blk b' cap l.toArray w hcellB hH hlb.1 hne hlc.1 (by show 2≤l.toArray.size;rw[List.size_toArray];omega) (by show l.toArray.size≤12;rw[List.size_toArray];omega)).mono ?_
          rintro e w' ⟨rfl,n,os,rfl⟩
          refine ⟨_,rfl,fin _ (flatK znn 2 (Sort.insertionSort lt l.toArray 0 l.length)).toList ?_ ?_ (z10 _)⟩
          ·refine ⟨by simp[hsz],.inr ⟨blk,cap,_,rfl,q3,z8f _ q4,q5,q6,by simp[putCells,q7],?_⟩⟩
           have hfs:(flatK znn 2 (Sort.insertionSort lt l.toArray 0 l.length)).size=l.length*2:=by rw[size_flatK,hsz]
           rw[← hfs]
           exact z35 cur _ (by omega)
          ·intro C' hle k c hk hc
           have hlt:k*2+c < (Sort.insertionSort lt l.toArray 0 l.length).size*2:=by omega
           have hg:=get_flatK znn 2 (Sort.insertionSort lt l.toArray 0 l.length) (k*2+c) hlt
           rw[show (k*2+c) / 2=k by omega,show (k*2+c) % 2=c by omega] at hg
           have hg2:(flatK znn 2 (Sort.insertionSort lt l.toArray 0 l.length)).toList.getD (k*2+c) undef=(znn (Sort.insertionSort lt l.toArray 0 l.length)[k]!)[c]! := by
            rw[← hg,yy0,Array.getElem?_toList,getElem!_pos _ _ (by rw[size_flatK];exact hlt),Array.getElem?_eq_getElem (by rw[size_flatK];exact hlt)];rfl
           have hl:(Sort.insertionSort lt l.toArray 0 l.length)[k]! = (Sort.insertionSort lt l.toArray 0 l.length).toList.getD k default:=by
            rw[getElem!_pos _ _ (by omega),yy0,Array.getElem?_toList,Array.getElem?_eq_getElem (by omega)];rfl
           rw[hg2,hl]
           obtain rfl | rfl:c=0∨c=1:=by omega
           ·exact .val
           ·exact .val
        ·
         have hX1:(Sort.insertionSort lt l.toArray 0 l.length).toList=l:=by
          match l,h2 with
          | [],_=>unfold Sort.insertionSort;unfold Sort.insOuter;rfl
          | [x],_=>unfold Sort.insertionSort;unfold Sort.insOuter;rfl
          | _::_::_,h2=>simp at h2
         have hsl:∃ (p:Option Addr) (n cap:Nat),v1'=.slice p n cap∧n≤1:=by
          rcases e2.2 with ⟨rfl,_⟩ | ⟨blk,cap,cur,rfl,_⟩
          ·exact ⟨none,0,0,rfl,by omega⟩
          ·exact ⟨_,_,_,rfl,h2⟩
         obtain ⟨p,n,cap,rfl,hle1⟩:=hsl
         refine (htiny p n cap hle1 _ _ _ w).mono ?_
         rintro e w' ⟨rfl,os,rfl⟩
         refine ⟨_,rfl,fin _ vs' ?_ ?_ (z8g _)⟩
         ·obtain ⟨q1,q2⟩:=e2
          refine ⟨q1,?_⟩
          rcases q2 with q2 | ⟨blk,cap',cur,q2,q3,q4,q5⟩
          ·exact .inl q2
          ·exact .inr ⟨blk,cap',cur,q2,q3,(heap_grow_old w _ (Array.getElem?_eq_some_iff.1 q4).1).trans q4,q5⟩
         ·intro C' hle k c hk hc
          rw[hX1]
          exact (e3 k c hk hc).mono hle
    ·cases hcr
   ·cases hcr
  ·cases hcr
 ·cases hr
theorem zast (n:Nat) (h1:n≤1):Lib.swapperK n sortE 25=n+1:=by
 have:n=0∨n=1:=by omega
 rcases this with rfl | rfl<;>simp[Lib.swapperK]
noncomputable def F_sort_SliceStable:SpecT:=zac6 44 109 ltN
noncomputable def F_sort_Slice:SpecT:=zac6 44 111 ltV
noncomputable def zn8 (l:List Power):Option (List Power):=z1z ltN l
noncomputable def zxx (l:List Power):Option (List Power):=z1z ltV l
theorem z8h (n : Nat) (h : n ≤ 1) : ∃ f, Tryz.prog.funcs.findIdx? (·.name == "internal/reflectlite" ++ ".Swapper$" ++ toString (Lib.swapperK n sortE 25)) = some f := by
 rw[zast n h]
 have:n=0∨n=1:=by omega
 rcases this with rfl | rfl
 ·exact ⟨142,by kernel_rfl⟩
 ·exact ⟨143,by kernel_rfl⟩
theorem zwm:zg Tryz.prog 108 F_sort_SliceStable.spec :=
 zahd zao2 (fun p n c hn lf la lb w=>by
  obtain ⟨f,hf⟩:=z8h n hn
  exact Any.sort_SliceStable_tiny Tryz.sortStable 44 83 zakl sortE (by kernel_rfl) (by kernel_rfl) (by kernel_rfl) (by kernel_rfl) 25 (fun _=>by kernel_rfl) p n c hn f hf lf la lb w)
  (fun blk Bs c d w h1 h2 h3 h4 h5 h6 h7=>zaa0 blk Bs c d w h1 h2 h3 h4 h5 h6 h7)
theorem z6o:zg Tryz.prog 110 F_sort_Slice.spec :=
 zahd zahc (fun p n c hn lf la lb w=>by
  obtain ⟨f,hf⟩:=z8h n hn
  exact Any.sort_Slice_tiny Tryz.sortSlice 44 83 zakl sortE (by kernel_rfl) (by kernel_rfl) (by kernel_rfl) (by kernel_rfl) 25 (fun _=>by kernel_rfl) p n c hn f hf lf la lb w)
  (fun blk Bs c d w h1 h2 h3 h4 h5 h6 h7=>zaeu blk Bs c d w h1 h2 h3 h4 h5 h6 h7)
