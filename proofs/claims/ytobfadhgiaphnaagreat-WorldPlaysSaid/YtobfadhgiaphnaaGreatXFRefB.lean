/-
  The functions, each by its tree.
-/
import Derived.Test.YtobfadhgiaphnaaGreatXAbC
import Derived.Test.YtobfadhgiaphnaaGreatXFBank
import Derived.Test.YtobfadhgiaphnaaGreatXFRatio
import Derived.Test.YtobfadhgiaphnaaGreatXFRefA
import Derived.Test.YtobfadhgiaphnaaGreatXFacts
namespace Go.Proofs.YtobfadhgiaphnaaGreat.Ab
open Go Go.RowKit
open Go.IntKind (i64 u64)
set_option maxRecDepth 100000
set_option linter.unusedVariables false
set_option linter.unusedSimpArgs false
noncomputable section
noncomputable def zbn2:EnvT:=⟨Tryz.prog,zw [(55,zyf),(99,z1l),(102,zaaf),(56,zfd)]⟩
theorem zbn3:(zbn2).Ok:=zd ⟨zzz,z7f,zaim,zf7,trivial⟩
def zr9 (a0:Stake) (a1 a2 a3:Int) (a4:Wait): Tr (Stake×Int) :=
 (.bind (zpx a0 a1 a2) fun v1 =>
 (.ite (v1 != 0)
  (.leaf (a0,v1))
  (.ite ((((decide (a3 < 1))||(decide (a3 > 1125899906842624)))||(decide (a4.Height < 0)))||(decide (a4.Due < 0)))
   (.leaf (a0,2))
   (.guard ((0:Int)≤a1∧(a1:Int) < 4)
   (.guard ((0:Int)≤a2∧(a2:Int) < 6)
   (.ite (decide (a3 > (A46.get a0.Shares a1 a2)))
    (.leaf (a0,7))
    (.ite ((((a0.Waits.length:Nat):Int)==60)||(a0.Next==1125899906842624))
     (.leaf (a0,6))
     (.guard ((0:Int)≤a2∧(a2:Int) < 6)
     (.bind (zs4 a3 (a0.Validators.Tokens.get a2) (a0.Validators.Shares.get a2)) fun v2 =>
     (.ite (decide (v2.1 < 1))
      (.leaf (a0,8))
      (.bind (zta a0.Bank v2.1) fun v3 =>
      (.ite (v3.2 != 0)
       (.leaf (a0,v3.2))
       (.bind (zc4 a0) fun v4 =>
       (.guard ((0:Int)≤a2∧(a2:Int) < 6)
       (.guard ((0:Int)≤a2∧(a2:Int) < 6)
       (.guard ((0:Int)≤a2∧(a2:Int) < 6)
       (.guard ((0:Int)≤a2∧(a2:Int) < 6)
       (.guard ((0:Int)≤a1∧(a1:Int) < 4)
       (.guard ((0:Int)≤a2∧(a2:Int) < 6)
       (.guard ((0:Int)≤a1∧(a1:Int) < 4)
       (.guard ((0:Int)≤a2∧(a2:Int) < 6)
       (.guard ((Sl.len (.waits v4.Waits)+Sl.len (.waits [{ (a4:Wait) with Number:=a0.Next,D:=a1,V:=a2,Amount:=v2.1 }]))*64≤140737488355328)
       (.leaf ((⟨v3.1,{ v4.Validators with Tokens:=(v4.Validators.Tokens.set a2 (i64.wrap ((v4.Validators.Tokens.get a2) - v2.1))),Shares:=(v4.Validators.Shares.set a2 (i64.wrap ((v4.Validators.Shares.get a2) - a3))) },(A46.set v4.Shares a1 a2 (i64.wrap ((A46.get v4.Shares a1 a2) - a3))),v4.Waits++[{ (a4:Wait) with Number:=a0.Next,D:=a1,V:=a2,Amount:=v2.1 }],i64.wrap (a0.Next+1)⟩:Stake),0))))))))))))))))))))))))
def zpy (a0:Stake) (a1 a2 a3:Int) (a4:Wait):=(zr9 a0 a1 a2 a3 a4).run
def z0w:SpecT:=zn 0 (LQ.v (Par.ofLP stakeL) (LQ.v intP (LQ.v intP (LQ.v intP (Par.q (Par.ofLP zaqm)))))) 5 [] (u5 zr9) default (LQ.v (Par.ofLP stakeL) (Par.q intP)) 2 []
theorem z9j:ze Tryz.prog 54 (z0w).spec :=
 sK (A:=⟨[],[],[],[[1,2,3,5,9,10],[1,2,3,5,9,10,12],[1,2,3,5,9,10,12,24],[10,11],[1,2,3,5,9,10,42],[10,11],[1,2,3,5,9,10,51],[10,11],[1,2,3,5,9,10,61],[10,11],[1,2,3,5,9,10,13],[1,2,3,5,9,10,14],[1,2,3,5,9,10,14,77],[10,11],[1,2,3,5,9,10,14,16,17],[1,2,3,5,9,10,14,16,17,87],[10,11],[1,2,3,5,9,10,14,16,18],[1,2,3,5,9,10,14,18],[1,2,3,5,9,10,14,18],[1,2,3,5,9,10,14,18],[1,2,5,9,10,14,18],[5,10,18],[10,18],[10,11]],[]⟩) zbn3 fM Tryz.func54 (c:=(fb Tryz.f54)) (by kernel_rfl) (Lc:=0) trivial _ _ 11 _ _ _ _ _ _ [.pubB 10] (by rintro ⟨a0,a1,a2,a3,a4⟩;kernel_rfl)
def za6k:List (List Nat):=[[1,2,3,6],[1,2,6,7],[1,2,6,7,15,16,17],[1,2,6,7,15,16,17,18],[1,2,6,7,8,9,15,16,17],[1,2,6,7,8,15,16,17,23,24],[1,2,6,7,8,15,16,17,23,24,25],[1,2,6,7,8,10,11,15,16,17,23,24],[1,2,6,7,8,10,15,16,17,23,24,35],[1,2,6,7,8,15,16,17,23,24],[1,2,6,7,8,15,16,17,23,24],[1,2,6,7,15,16,17],[6]]
noncomputable def za6l:EnvT:=⟨Tryz.prog,zw [(56,zfd)]⟩
theorem za6m:(za6l).Ok:=zd ⟨zf7,trivial⟩
def zdj (x0 x1 x2 x3 x4:Int) (x5:(A2 Int)) (x6:Int) (x7 x8:Stake): Tr ((Int×Int×Int×Int×Int×(A2 Int)×Int×Stake×Stake)⊕(Int×Int×Int×Int×Stake×Stake)) :=
 (.ite (decide (x6 < 2))
  (.guard ((0:Int)≤x6∧(x6:Int) < 2)
  (.ite ((x6==x0)&&(decide ((x5.get x6)≤x1)))
   (.guard ((0:Int)≤x2∧x2 < ((Sl.len (.waits x8.Waits):Nat):Int))
   (.guard ((0:Int)≤x6∧(x6:Int) < 2)
   (.leaf (.inl (x0,x1,x2,x3,x4,x5,i64.wrap (x6+1),x7,{ x8 with Waits:=x8.Waits.set x2.toNat ({ ((x8.Waits.getD x2.toNat default):Wait) with h0:=if x6=0 then 0 else (x8.Waits.getD x2.toNat default).h0,h1:=if x6=1 then 0 else (x8.Waits.getD x2.toNat default).h1 }) })))))
   (.leaf (.inl (x0,x1,x2,x3,x4,x5,i64.wrap (x6+1),x7,x8)))))
  (.leaf (.inr (x0,x1,x3,x4,x7,x8))))
def zpz (x0 x1 x2 x3 x4:Int) (x5:(A2 Int)) (x6:Int) (x7 x8:Stake):=zbl (fun s:Int×Int×Int×Int×Int×(A2 Int)×Int×Stake×Stake=>(zdj s.1 s.2.1 s.2.2.1 s.2.2.2.1 s.2.2.2.2.1 s.2.2.2.2.2.1 s.2.2.2.2.2.2.1 s.2.2.2.2.2.2.2.1 s.2.2.2.2.2.2.2.2).run) (x0,x1,x2,x3,x4,x5,x6,x7,x8)
def zbcp:Ann:=⟨[],[],[],za6k,[]⟩
def zbcq:=EndD.mk (LQ.map (LQ.v intP (LQ.v intP (LQ.kp 0 0 (LQ.kp 1 0 (LQ.v intP (LQ.k (LQ.c (.own 2)) (LQ.v intP (LQ.v intP (LQ.seq (Par.q (Par.ofLP (a2L (LP.one intP)))) (LQ.v intP (LQ.seq (LP.q stakeL) (LQ.seq (LP.q bankL) (LQ.seq (LP.q validatorsL) (LQ.seq (LP.q (a4L (a6L (LP.one intP)))) (LQ.k (LQ.c (.own 2)) (LQ.v intP (Par.q zbx))))))))))))))))) (fun x=>(x.1,x.2.1,x.2.2.1,x.2.2.2.1,(d4 x).1,(d4 x).2.1,(d4 x).2.2.1,(d4 x).2.2.2.1,(⟨(d8 x).1,(d8 x).2.1,(d8 x).2.2.1,(d12 x),(d8 x).2.2.2.1⟩:Stake))) (fun y=>(y.1,y.2.1,y.2.2.1,y.2.2.2.1,(d4 y).1,(d4 y).2.1,(d4 y).2.2.1,(d4 y).2.2.2.1,(d8 y).Bank,(d8 y).Validators,(d8 y).Shares,(d8 y).Next,(d8 y).Waits)) (fun _=>rfl)) ⟨[1,2,6,7,8,15,16,17,23,24],[.nilcell 7 61 127 (.waits []),.nilown 15 127 (.waits [])]⟩ [.cells 48 63,.cells 48 63,.rows 127]
def zaxp:=EndD.mk (LQ.map (LQ.v intP (LQ.v intP (LQ.kp 0 0 (LQ.kp 1 0 (LQ.k (LQ.c (.own 2)) (LQ.v intP (LQ.v intP (LQ.seq (LP.q stakeL) (LQ.seq (LP.q bankL) (LQ.seq (LP.q validatorsL) (LQ.seq (LP.q (a4L (a6L (LP.one intP)))) (LQ.k (LQ.c (.own 2)) (LQ.v intP (Par.q zbx)))))))))))))) (fun x=>(x.1,x.2.1,x.2.2.1,x.2.2.2.1,(d4 x).1,(⟨(d4 x).2.1,(d4 x).2.2.1,(d4 x).2.2.2.1,(d8 x).2,(d8 x).1⟩:Stake))) (fun y=>(y.1,y.2.1,y.2.2.1,y.2.2.2.1,(d4 y).1,(d4 y).2.Bank,(d4 y).2.Validators,(d4 y).2.Shares,(d4 y).2.Next,(d4 y).2.Waits)) (fun _=>rfl)) ⟨[1,2,6,7,15,16,17],[.nilcell 7 61 127 (.waits []),.nilown 15 127 (.waits [])]⟩ [.cells 48 63,.cells 48 63,.rows 127]
def za2k:St→Option LR:=L1 46 6 0 zbcq (.exit 2) zaxp (u9 zdj)
def zs142a:=sub (fb Tryz.f77) [0,1,1,0,0,1,1,0,0,1,0,1,1]
theorem zbcr:zk (za6l).env 0 zs142a za2k :=
 zb5 (A:=zbcp) za6m fM trivial (k:=z8 zs142a) (by kernel_rfl) rfl (by rintro ⟨x0,x1,x2,x3,x4,x5,x6,x7,x8⟩;kernel_rfl)
def zix (x0 x1 x2 x3:Int) (x4 x5:Stake): Tr ((Int×Int×Int×Int×Stake×Stake)⊕(Stake×Stake)) :=
 (.ite (decide (x3 < x2))
  (.guard ((0:Int)≤x3∧x3 < ((Sl.len (.waits x5.Waits):Nat):Int))
  (.bind (zpz x0 x1 x3 x2 x3 (⟨(x5.Waits.getD x3.toNat default).h0,(x5.Waits.getD x3.toNat default).h1⟩:(A2 Int)) 0 x4 x5) fun v2 =>
  (.leaf (.inl (v2.1,v2.2.1,v2.2.2.1,i64.wrap (v2.2.2.2.1+1),v2.2.2.2.2.1,v2.2.2.2.2.2)))))
  (.leaf (.inr (x4,(⟨x5.Bank,x5.Validators,x5.Shares,x5.Waits,x5.Next⟩:Stake)))))
def zp0 (x0 x1 x2 x3:Int) (x4 x5:Stake):=zbl (fun s:Int×Int×Int×Int×Stake×Stake=>(zix s.1 s.2.1 s.2.2.1 s.2.2.2.1 s.2.2.2.2.1 s.2.2.2.2.2).run) (x0,x1,x2,x3,x4,x5)
def zbcs:Ann:=⟨[([0,1,1,0,0,1,1,0,0,1,0,1,1],za2k)],[],[],za6k,[]⟩
def zbct:=EndD.mk (LQ.map (LQ.v intP (LQ.v intP (LQ.kp 0 0 (LQ.kp 1 0 (LQ.k (LQ.c (.own 2)) (LQ.v intP (LQ.v intP (LQ.seq (LP.q stakeL) (LQ.seq (LP.q bankL) (LQ.seq (LP.q validatorsL) (LQ.seq (LP.q (a4L (a6L (LP.one intP)))) (LQ.k (LQ.c (.own 2)) (LQ.v intP (Par.q zbx)))))))))))))) (fun x=>(x.1,x.2.1,x.2.2.1,x.2.2.2.1,(d4 x).1,(⟨(d4 x).2.1,(d4 x).2.2.1,(d4 x).2.2.2.1,(d8 x).2,(d8 x).1⟩:Stake))) (fun y=>(y.1,y.2.1,y.2.2.1,y.2.2.2.1,(d4 y).1,(d4 y).2.Bank,(d4 y).2.Validators,(d4 y).2.Shares,(d4 y).2.Next,(d4 y).2.Waits)) (fun _=>rfl)) ⟨[1,2,6,7,15,16,17],[.nilcell 7 61 127 (.waits []),.nilown 15 127 (.waits [])]⟩ [.cells 48 63,.cells 48 63,.rows 127]
def zaxq:=EndD.mk (LQ.map (LQ.kp 0 0 (LQ.kp 1 0 (LQ.seq (LP.q stakeL) (LQ.seq (LP.q bankL) (LQ.seq (LP.q validatorsL) (LQ.seq (LP.q (a4L (a6L (LP.one intP)))) (LQ.k (LQ.c (.own 2)) (LQ.v intP (Par.q zbx))))))))) (fun x=>(x.1,(⟨x.2.1,x.2.2.1,x.2.2.2.1,(d4 x).2,(d4 x).1⟩:Stake))) (fun y=>(y.1,y.2.Bank,y.2.Validators,y.2.Shares,y.2.Next,y.2.Waits)) (fun _=>rfl)) ⟨[6,7],[.nilcell 7 61 127 (.waits [])]⟩ [.cells 48 63,.cells 48 63,.rows 127]
def za2l:St→Option LR:=L1 46 6 0 zbct (.exit 0) zaxq (u6 zix)
def zs142b:=sub (fb Tryz.f77) [0,1,0,1,1]
theorem zbcu:zk (za6l).env 0 zs142b za2l :=
 zb5 (A:=zbcs) za6m fM ⟨zbcr,trivial⟩ (k:=z8 zs142b) (by kernel_rfl) rfl (by rintro ⟨x0,x1,x2,x3,x4,x5⟩;kernel_rfl)
def zz1 (a0:Stake) (a1 a2:Int): Tr (Stake) :=
 (.bind (zc4 a0) fun v1 =>
 (.bind (zp0 a1 a2 ((v1.Waits.length:Nat):Int) 0 (default:Stake) v1) fun v3 =>
 (.leaf v3.2)))
def zqo (a0:Stake) (a1 a2:Int):=(zz1 a0 a1 a2).run
def zz2:SpecT:=zn 0 (LQ.v (Par.ofLP stakeL) (LQ.v intP (Par.q intP))) 3 [] (u3 zz1) default (Par.q (Par.ofLP stakeL)) 1 []
theorem z4r:ze Tryz.prog 77 (zz2).spec :=
 sK (A:=⟨[([0,1,0,1,1],za2l)],[],[],za6k,[]⟩) za6m fM Tryz.func77 (c:=(fb Tryz.f77)) (by kernel_rfl) (Lc:=0) ⟨zbcu,trivial⟩ _ _ 6 _ _ _ _ _ _ [.pubB 6] (by rintro ⟨a0,a1,a2⟩;kernel_rfl)
def zbcv:List (List Nat):=[[1,2,4],[1,2,4,13],[4,5,6],[1,2,4,7],[1,2,4,7],[1,2,4,7,8],[1,4,7,8,19,20,21],[1,4,7,8,19,20,21,22],[1,4,7,8,10,19,20,21],[1,4,7,8,10,19,20,21,40],[1,4,7,8,10,19,20,21],[1,4,7,8,19,20,21],[1,4,7,8,19,20,21],[1,4,7,8,19,20,21],[4,5,6]]
noncomputable def zbcw:EnvT:=⟨Tryz.prog,zw [(96,zoi),(56,zoh),(106,zakm)]⟩
theorem zbcx:(zbcw).Ok:=zd ⟨zr8,zr7,zaqn,trivial⟩
def zkd (x0:Int) (x1:(List Wait)) (x2 x3:Int) (x4 x5:Stake) (x6:(List Int)): Tr ((Int×(List Wait)×Int×Int×Stake×Stake×(List Int))⊕(Stake×Stake×(List Int))) :=
 (.ite (decide (x3 < x2))
  (.guard ((0:Int)≤x3∧x3 < ((Sl.len (.waits x1):Nat):Int))
  (.ite (((decide (((x1.getD x3.toNat default).Due)≤x0))&&(((x1.getD x3.toNat default).h0)==0))&&(((x1.getD x3.toNat default).h1)==0))
   (.bind (z9a x5.Bank ((x1.getD x3.toNat default).D) ((x1.getD x3.toNat default).Amount)) fun v3 =>
   (.guard ((Sl.len (.ints x6)+Sl.len (.ints [(x1.getD x3.toNat default).Number]))*8≤140737488355328)
   (.leaf (.inl (x0,x1,x2,i64.wrap (x3+1),x4,{ x5 with Bank:=v3.1 },x6++[(x1.getD x3.toNat default).Number])))))
   (.guard ((Sl.len (.waits x5.Waits)+Sl.len (.waits [(x1.getD x3.toNat default)]))*64≤140737488355328)
   (.leaf (.inl (x0,x1,x2,i64.wrap (x3+1),x4,{ x5 with Waits:=x5.Waits++[(x1.getD x3.toNat default)] },x6))))))
  (.leaf (.inr (x4,x5,x6))))
def zsa (x0:Int) (x1:(List Wait)) (x2 x3:Int) (x4 x5:Stake) (x6:(List Int)):=zbl (fun s:Int×(List Wait)×Int×Int×Stake×Stake×(List Int)=>(zkd s.1 s.2.1 s.2.2.1 s.2.2.2.1 s.2.2.2.2.1 s.2.2.2.2.2.1 s.2.2.2.2.2.2).run) (x0,x1,x2,x3,x4,x5,x6)
def zbcy:Ann:=⟨[],[],[],zbcv,[]⟩
def zbcz:=EndD.mk (LQ.map (LQ.v intP (LQ.kp 0 0 (LQ.kp 1 0 (LQ.k (LQ.c (.own 2)) (LQ.v zbx (LQ.v intP (LQ.v intP (LQ.seq (LP.q bankL) (LQ.seq (LP.q validatorsL) (LQ.seq (LP.q (a4L (a6L (LP.one intP)))) (LQ.k (LQ.c (.own 3)) (LQ.v intP (LQ.seq (LP.q bankL) (LQ.seq (LP.q validatorsL) (LQ.seq (LP.q (a4L (a6L (LP.one intP)))) (LQ.k (LQ.c (.own 4)) (LQ.v intP (LQ.v za7 (LQ.v zbx (Par.q zbx)))))))))))))))))))) (fun x=>(x.1,x.2.1,x.2.2.1,x.2.2.2.1,(⟨(d4 x).1,(d4 x).2.1,(d4 x).2.2.1,(d12 x).2.1,(d4 x).2.2.2.1⟩:Stake),(⟨(d8 x).1,(d8 x).2.1,(d8 x).2.2.1,(d12 x).2.2,(d8 x).2.2.2.1⟩:Stake),(d12 x).1)) (fun y=>(y.1,y.2.1,y.2.2.1,y.2.2.2.1,(d4 y).1.Bank,(d4 y).1.Validators,(d4 y).1.Shares,(d4 y).1.Next,(d4 y).2.1.Bank,(d4 y).2.1.Validators,(d4 y).2.1.Shares,(d4 y).2.1.Next,(d4 y).2.2,(d4 y).1.Waits,(d4 y).2.1.Waits)) (fun _=>rfl)) ⟨[1,4,7,8,19,20,21],[.nilcell 4 61 127 (.waits []),.nilcell 7 61 127 (.waits []),.nilown 8 3 (.ints []),.pub 19,.nilsl 19 (.waits [])]⟩ [.cells 48 63,.cells 48 63,.rows 3,.rows 127,.rows 127]
def zaxr:=EndD.mk (LQ.map (LQ.kp 0 0 (LQ.kp 1 0 (LQ.k (LQ.c (.own 2)) (LQ.seq (LP.q bankL) (LQ.seq (LP.q validatorsL) (LQ.seq (LP.q (a4L (a6L (LP.one intP)))) (LQ.k (LQ.c (.own 3)) (LQ.v intP (LQ.seq (LP.q bankL) (LQ.seq (LP.q validatorsL) (LQ.seq (LP.q (a4L (a6L (LP.one intP)))) (LQ.k (LQ.c (.own 4)) (LQ.v intP (LQ.v za7 (LQ.v zbx (Par.q zbx)))))))))))))))) (fun x=>((⟨x.1,x.2.1,x.2.2.1,(d8 x).2.1,x.2.2.2.1⟩:Stake),(⟨(d4 x).1,(d4 x).2.1,(d4 x).2.2.1,(d8 x).2.2,(d4 x).2.2.2.1⟩:Stake),(d8 x).1)) (fun y=>(y.1.Bank,y.1.Validators,y.1.Shares,y.1.Next,y.2.1.Bank,y.2.1.Validators,y.2.1.Shares,y.2.1.Next,y.2.2,y.1.Waits,y.2.1.Waits)) (fun _=>rfl)) ⟨[4,7,8],[.nilcell 4 61 127 (.waits []),.nilcell 7 61 127 (.waits []),.nilown 8 3 (.ints [])]⟩ [.cells 48 63,.cells 48 63,.rows 3,.rows 127,.rows 127]
def za2m:St→Option LR:=L1 66 10 0 zbcz (.exit 0) zaxr (u7 zkd)
def zs143a:=sub (fb Tryz.f61) [0,1,0,1,1,1,1,1]
theorem zbc0:zk (zbcw).env 0 zs143a za2m :=
 zb5 (A:=zbcy) zbcx fM trivial (k:=z8 zs143a) (by kernel_rfl) rfl (by rintro ⟨x0,x1,x2,x3,x4,x5,x6⟩;kernel_rfl)
def z2m (a0:Stake) (a1:Int): Tr (Stake×(List Int)×Int) :=
 (.bind (ziw a0) fun v1 =>
 (.ite (!v1)
  (.leaf (a0,[],2))
  (.bind (zf1 a0) fun v2 =>
  (.bind (zsa a1 a0.Waits ((a0.Waits.length:Nat):Int) 0 (default:Stake) ({ v2 with Waits:=[] }) []) fun v4 =>
  (.leaf (v4.2.1,v4.2.2,0))))))
def ztc (a0:Stake) (a1:Int):=(z2m a0 a1).run
def zaaj:SpecT:=zn 0 (LQ.v (Par.ofLP stakeL) (Par.q intP)) 2 [] (u2 z2m) default (LQ.v (Par.ofLP stakeL) (LQ.v za7 (Par.q intP))) 3 []
theorem zaiq:ze Tryz.prog 61 (zaaj).spec :=
 sK (A:=⟨[([0,1,0,1,1,1,1,1],za2m)],[],[],zbcv,[]⟩) zbcx fM Tryz.func61 (c:=(fb Tryz.f61)) (by kernel_rfl) (Lc:=0) ⟨zbc0,trivial⟩ _ _ 10 _ _ _ _ _ _ [.pubB 4,.pub 5] (by rintro ⟨a0,a1⟩;kernel_rfl)
def zbc1:List (List Nat):=[[1,2,3,4,8],[1,2,3,4,8,11],[1,2,3,4,8,11,24],[8,9,10],[1,2,3,4,8,12,13],[1,2,3,4,8,12,13,38],[8,9,10],[1,2,3,4,8,12,14],[1,2,3,4,8,12,14,15],[1,2,3,4,8,12,14,15,44,45,46],[1,2,3,4,8,12,14,15,44,45,46,47],[1,2,3,4,8,12,14,15,16,17,44,45,46],[1,2,3,4,8,12,14,15,16,17,44,45,46,60],[1,2,3,4,8,12,14,15,16,17,18,44,45,46],[1,2,3,4,8,12,14,15,18,44,45,46],[1,2,3,4,8,12,14,15,44,45,46],[1,2,3,4,8,12,14,15,44,45,46],[1,8,12,14,15],[1,8,12,14,15],[8,12,14,15],[8,9,10]]
noncomputable def zbc2:EnvT:=⟨Tryz.prog,zw [(55,zyf),(103,zagf),(56,zfd),(104,zagk)]⟩
theorem zbc3:(zbc2).Ok:=zd ⟨zzz,zam0,zf7,zam5,trivial⟩
def zma (x0 x1 x2 x3 x4:Int) (x5:(List Wait)) (x6 x7:Int) (x8 x9 x10:Stake): Tr ((Int×Int×Int×Int×Int×(List Wait)×Int×Int×Stake×Stake×Stake)⊕(Int×Int×Int×Stake×Stake×Stake)) :=
 (.ite (decide (x7 < x6))
  (.guard ((0:Int)≤x7∧x7 < ((Sl.len (.waits x5):Nat):Int))
  (.ite ((((x5.getD x7.toNat default).V) != x0)||(decide (((x5.getD x7.toNat default).Height) < x1)))
   (.leaf (.inl (x0,x1,x2,x3,x4,x5,x6,i64.wrap (x7+1),x8,x9,x10)))
   (.bind (zza ((x5.getD x7.toNat default).Amount) x2) fun v4 =>
   (.guard ((0:Int)≤x7∧x7 < ((Sl.len (.waits x10.Waits):Nat):Int))
   (.leaf (.inl (x0,x1,x2,x3,i64.wrap (x4+v4.1),x5,x6,i64.wrap (x7+1),x8,x9,{ x10 with Waits:=x10.Waits.set x7.toNat ({ ((x10.Waits.getD x7.toNat default):Wait) with Amount:=i64.wrap (((x5.getD x7.toNat default).Amount) - v4.1) }) })))))))
  (.leaf (.inr (x0,x3,x4,x8,x9,x10))))
def zux (x0 x1 x2 x3 x4:Int) (x5:(List Wait)) (x6 x7:Int) (x8 x9 x10:Stake):=zbl (fun s:Int×Int×Int×Int×Int×(List Wait)×Int×Int×Stake×Stake×Stake=>(zma s.1 s.2.1 s.2.2.1 s.2.2.2.1 s.2.2.2.2.1 s.2.2.2.2.2.1 s.2.2.2.2.2.2.1 s.2.2.2.2.2.2.2.1 s.2.2.2.2.2.2.2.2.1 s.2.2.2.2.2.2.2.2.2.1 s.2.2.2.2.2.2.2.2.2.2).run) (x0,x1,x2,x3,x4,x5,x6,x7,x8,x9,x10)
def zbc4:Ann:=⟨[],[],[],zbc1,[]⟩
def zbc5:=EndD.mk (LQ.map (LQ.v intP (LQ.v intP (LQ.v intP (LQ.kp 0 0 (LQ.kp 1 0 (LQ.v intP (LQ.kp 2 0 (LQ.v intP (LQ.v zbx (LQ.v intP (LQ.v intP (LQ.seq (LP.q stakeL) (LQ.seq (LP.q stakeL) (LQ.seq (LP.q bankL) (LQ.seq (LP.q validatorsL) (LQ.seq (LP.q (a4L (a6L (LP.one intP)))) (LQ.k (LQ.c (.own 3)) (LQ.v intP (Par.q zbx))))))))))))))))))) (fun x=>(x.1,x.2.1,x.2.2.1,x.2.2.2.1,(d4 x).1,(d4 x).2.1,(d4 x).2.2.1,(d4 x).2.2.2.1,(d8 x).1,(d8 x).2.1,(⟨(d8 x).2.2.1,(d8 x).2.2.2.1,(d12 x).1,(d12 x).2.2,(d12 x).2.1⟩:Stake))) (fun y=>(y.1,y.2.1,y.2.2.1,y.2.2.2.1,(d4 y).1,(d4 y).2.1,(d4 y).2.2.1,(d4 y).2.2.2.1,(d8 y).1,(d8 y).2.1,(d8 y).2.2.Bank,(d8 y).2.2.Validators,(d8 y).2.2.Shares,(d8 y).2.2.Next,(d8 y).2.2.Waits)) (fun _=>rfl)) ⟨[1,2,3,4,8,12,14,15,44,45,46],[.nilcell 14 61 127 (.waits []),.pub 44,.nilsl 44 (.waits [])]⟩ [.cells 48 63,.cells 48 63,.cells 48 63,.rows 127]
def zaxs:=EndD.mk (LQ.map (LQ.v intP (LQ.kp 0 0 (LQ.kp 1 0 (LQ.v intP (LQ.kp 2 0 (LQ.v intP (LQ.seq (LP.q stakeL) (LQ.seq (LP.q stakeL) (LQ.seq (LP.q bankL) (LQ.seq (LP.q validatorsL) (LQ.seq (LP.q (a4L (a6L (LP.one intP)))) (LQ.k (LQ.c (.own 3)) (LQ.v intP (Par.q zbx)))))))))))))) (fun x=>(x.1,x.2.1,x.2.2.1,x.2.2.2.1,(d4 x).1,(⟨(d4 x).2.1,(d4 x).2.2.1,(d4 x).2.2.2.1,(d8 x).2,(d8 x).1⟩:Stake))) (fun y=>(y.1,y.2.1,y.2.2.1,y.2.2.2.1,(d4 y).1,(d4 y).2.Bank,(d4 y).2.Validators,(d4 y).2.Shares,(d4 y).2.Next,(d4 y).2.Waits)) (fun _=>rfl)) ⟨[1,4,8,12,14,15],[.nilcell 14 61 127 (.waits [])]⟩ [.cells 48 63,.cells 48 63,.cells 48 63,.rows 127]
def za2n:St→Option LR:=L1 116 7 0 zbc5 (.exit 0) zaxs (u11 zma)
def zs144a:=sub (fb Tryz.f57) [0,1,0,1,1,1,1,1,1]
theorem zbc6:zk (zbc2).env 0 zs144a za2n :=
 zb5 (A:=zbc4) zbc3 fM trivial (k:=z8 zs144a) (by kernel_rfl) rfl (by rintro ⟨x0,x1,x2,x3,x4,x5,x6,x7,x8,x9,x10⟩;kernel_rfl)
def z51 (a0:Stake) (a1 a2 a3:Int): Tr (Stake×Int×Int) :=
 (.bind (zpx a0 0 a1) fun v1 =>
 (.ite (v1 != 0)
  (.leaf (a0,0,v1))
  (.guard ((0:Int)≤a1∧(a1:Int) < 6)
  (.bind (zza (a0.Validators.Tokens.get a1) a3) fun v2 =>
  (.ite (v2.2 != 0)
   (.leaf (a0,0,v2.2))
   (.bind (zc4 a0) fun v3 =>
   (.bind (zux a1 a2 a3 v2.1 0 a0.Waits ((a0.Waits.length:Nat):Int) 0 a0 (default:Stake) v3) fun v5 =>
   (.bind (z5r v5.2.2.2.1.Bank v5.2.1 v5.2.2.1) fun v6 =>
   (.guard ((0:Int)≤v5.1∧(v5.1:Int) < 6)
   (.guard ((0:Int)≤v5.1∧(v5.1:Int) < 6)
   (.guard ((0:Int)≤v5.1∧(v5.1:Int) < 6)
   (.guard ((0:Int)≤v5.1∧(v5.1:Int) < 6)
   (.leaf ({ v5.2.2.2.2.2 with Bank:=v6.1,Validators:={ v5.2.2.2.2.2.Validators with Tokens:=(v5.2.2.2.2.2.Validators.Tokens.set v5.1 (i64.wrap ((v5.2.2.2.2.2.Validators.Tokens.get v5.1) - v5.2.1))),Lost:=(v5.2.2.2.2.2.Validators.Lost.set v5.1 (i64.wrap ((v5.2.2.2.2.2.Validators.Lost.get v5.1)+(i64.wrap (v5.2.1+v5.2.2.1))))) } },i64.wrap (v5.2.1+v5.2.2.1),0))))))))))))))
def zq6 (a0:Stake) (a1 a2 a3:Int):=(z51 a0 a1 a2 a3).run
def z52:SpecT:=zn 0 (LQ.v (Par.ofLP stakeL) (LQ.v intP (LQ.v intP (Par.q intP)))) 4 [] (u4 z51) default (LQ.v (Par.ofLP stakeL) (LQ.v intP (Par.q intP))) 3 []
theorem zaak:ze Tryz.prog 57 (z52).spec :=
 sK (A:=⟨[([0,1,0,1,1,1,1,1,1],za2n)],[],[],zbc1,[]⟩) zbc3 fM Tryz.func57 (c:=(fb Tryz.f57)) (by kernel_rfl) (Lc:=0) ⟨zbc6,trivial⟩ _ _ 7 _ _ _ _ _ _ [.pubB 8] (by rintro ⟨a0,a1,a2,a3⟩;kernel_rfl)
noncomputable def zbn4:EnvT:=⟨Tryz.prog,zw [(55,zyf),(56,zoh)]⟩
theorem zbn5:(zbn4).Ok:=zd ⟨zzz,zr7,trivial⟩
def z53 (a0:Stake) (a1 a2:Int): Tr (Stake×Int) :=
 (.bind (zpx a0 0 a1) fun v1 =>
 (.ite (v1 != 0)
  (.leaf (a0,v1))
  (.guard ((0:Int)≤a1∧(a1:Int) < 6)
  (.bind (zf1 a0) fun v2 =>
  (.ite ((a2==0)&&(a0.Validators.Jailed.get a1))
   (.leaf (a0,14))
   (.ite ((decide (a2 > 0))&&(a0.Validators.Dead.get a1))
    (.leaf (a0,15))
    (.ite ((a2==1)&&(!(a0.Validators.Jailed.get a1)))
     (.leaf (a0,4))
     (.guard ((0:Int)≤a1∧(a1:Int) < 6)
     (.guard ((0:Int)≤a1∧(a1:Int) < 6)
     (.leaf ({ v2 with Validators:={ v2.Validators with Jailed:=(v2.Validators.Jailed.set a1 (a2 != 1)),Dead:=(v2.Validators.Dead.set a1 (a2==2)) } },0)))))))))))
def zga (a0:Stake) (a1 a2:Int):=(z53 a0 a1 a2).run
def zz3:SpecT:=zn 0 (LQ.v (Par.ofLP stakeL) (LQ.v intP (Par.q intP))) 3 [] (u3 z53) default (LQ.v (Par.ofLP stakeL) (Par.q intP)) 2 []
theorem z2n:ze Tryz.prog 21 (zz3).spec :=
 sK (A:=⟨[],[],[],[[1,2,3,6],[1,2,3,6,8],[1,2,3,6,8,15],[6,7],[1,2,3,6,9],[1,2,3,6,9,10],[1,2,3,6,9,10,24],[6,7],[1,2,3,6,9,10,32],[6,7],[1,2,3,6,10,40],[6,7],[1,2,6,10],[6,10],[6,7]],[]⟩) zbn5 fM Tryz.func21 (c:=(fb Tryz.f21)) (by kernel_rfl) (Lc:=0) trivial _ _ 6 _ _ _ _ _ _ [.pubB 6] (by rintro ⟨a0,a1,a2⟩;kernel_rfl)
def zaxt:List (List Nat):=[[1],[1,3],[3,11,12],[3,11,12,13],[3,4,5,11,12],[3,4,5,11,12,18],[3,11,12],[3,11,12],[3,6],[3,6,25],[3,6,25,26],[3,6,7,25],[3,6,7,8,25],[3,6,7,8,25,28],[3,6,7,8,25,28,29],[3,6,7,8,9,25,28],[3,6,7,8,25,28,51],[3,6,7,8,25,28],[3,6,7,8,25,28],[3,6,7,25,62],[3,6,25],[3,6,25],[2]]
def zq7 (x0:(A6 zi)) (x1:Int) (x2:(A6 Int)): Tr (((A6 zi)×Int×(A6 Int))⊕((A6 Int))) :=
 (.ite (decide (x1 < 6))
  (.guard ((0:Int)≤x1∧(x1:Int) < 6)
  (.ite (!(A6.get ⟨x0.x0.Jailed,x0.x1.Jailed,x0.x2.Jailed,x0.x3.Jailed,x0.x4.Jailed,x0.x5.Jailed⟩ x1))
   (.guard ((100:Int)≠0)
   (.guard ((0:Int)≤x1∧(x1:Int) < 6)
   (.leaf (.inl (x0,i64.wrap (x1+1),(x2.set x1 (i64.wrap (Int.tdiv (A6.get ⟨x0.x0.Tokens,x0.x1.Tokens,x0.x2.Tokens,x0.x3.Tokens,x0.x4.Tokens,x0.x5.Tokens⟩ x1) 100))))))))
   (.leaf (.inl (x0,i64.wrap (x1+1),x2)))))
  (.leaf (.inr x2)))
def zz4 (x0:(A6 zi)) (x1:Int) (x2:(A6 Int)):=zbl (fun s:(A6 zi)×Int×(A6 Int)=>(zq7 s.1 s.2.1 s.2.2).run) (x0,x1,x2)
def zbc7:Ann:=⟨[],[],[],zaxt,[]⟩
def zbc8:=EndD.mk (LQ.kp 0 0 (LQ.seq (Par.q (Par.ofLP (a6L zfa))) (LQ.v intP (LP.q (a6L (LP.one intP)))))) ⟨[3,11,12],[]⟩ [.cells 44 6]
def zaxu:=EndD.mk (LQ.kp 0 0 (LP.q (a6L (LP.one intP)))) ⟨[3],[]⟩ [.cells 44 6]
def za2o:St→Option LR:=L1 73 6 0 zbc8 (.exit 0) zaxu (u3 zq7)
def zs146a:=sub (fb Tryz.f62) [0,1,0,1,1]
theorem zbc9:zk (zyN).env 0 zs146a za2o :=
 zb5 (A:=zbc7) zhN fM trivial (k:=z8 zs146a) (by kernel_rfl) rfl (by rintro ⟨x0,x1,x2⟩;kernel_rfl)
def zq8 (x0 x1 x2 x3:Int) (x4:(A6 Int)) (x5:(List Power)): Tr ((Int×Int×Int×Int×(A6 Int)×(List Power))⊕(Int×Int×Int×(A6 Int)×(List Power))) :=
 (.ite (decide (x3 < 6))
  (.guard ((0:Int)≤x3∧(x3:Int) < 6)
  (.guard ((0:Int)≤x0∧(x0:Int) < 6)
  (.guard (((decide ((x4.get x3) > (x4.get x0)))=false→((0:Int)≤x3∧(x3:Int) < 6)∧True))
  (.guard (((decide ((x4.get x3) > (x4.get x0)))=false→((0:Int)≤x0∧(x0:Int) < 6)∧True))
  (.ite ((decide ((x4.get x3) > (x4.get x0)))||(((x4.get x3)==(x4.get x0))&&(decide (x3 < x0))))
   (.leaf (.inl (x0,i64.wrap (x1+1),x2,i64.wrap (x3+1),x4,x5)))
   (.leaf (.inl (x0,x1,x2,i64.wrap (x3+1),x4,x5))))))))
  (.leaf (.inr (x0,x1,x2,x4,x5))))
def zz5 (x0 x1 x2 x3:Int) (x4:(A6 Int)) (x5:(List Power)):=zbl (fun s:Int×Int×Int×Int×(A6 Int)×(List Power)=>(zq8 s.1 s.2.1 s.2.2.1 s.2.2.2.1 s.2.2.2.2.1 s.2.2.2.2.2).run) (x0,x1,x2,x3,x4,x5)
def zbda:Ann:=⟨[],[],[],zaxt,[]⟩
def zbdb:=EndD.mk (LQ.kp 0 0 (LQ.k (LQ.c (.own 1)) (LQ.v intP (LQ.v intP (LQ.v intP (LQ.v intP (LQ.seq (LP.q (a6L (LP.one intP))) (Par.q zf)))))))) ⟨[3,6,7,8,25,28],[.nilown 6 154 (.powers [])]⟩ [.cells 44 6,.rows 154]
def zaxv:=EndD.mk (LQ.kp 0 0 (LQ.k (LQ.c (.own 1)) (LQ.v intP (LQ.v intP (LQ.v intP (LQ.seq (LP.q (a6L (LP.one intP))) (Par.q zf))))))) ⟨[3,6,7,8,25],[.nilown 6 154 (.powers [])]⟩ [.cells 44 6,.rows 154]
def za2p:St→Option LR:=L1 73 6 0 zbdb (.exit 4) zaxv (u6 zq8)
def zs146b:=sub (fb Tryz.f62) [0,1,0,1,1,0,0,1,1,0,0,1,0,1,1,1,1]
theorem zbdc:zk (zyN).env 0 zs146b za2p :=
 zb5 (A:=zbda) zhN fM trivial (k:=z8 zs146b) (by kernel_rfl) rfl (by rintro ⟨x0,x1,x2,x3,x4,x5⟩;kernel_rfl)
def zq9 (x0:Int) (x1:(A6 Int)) (x2:(List Power)): Tr ((Int×(A6 Int)×(List Power))⊕((List Power))) :=
 (.ite (decide (x0 < 6))
  (.bind (zz5 x0 0 x0 0 x1 x2) fun v2 =>
  (.guard ((0:Int)≤v2.1∧(v2.1:Int) < 6)
  (.ite ((decide ((v2.2.2.2.1.get v2.1) > 0))&&(decide (v2.2.1 < 4)))
   (.guard ((0:Int)≤v2.1∧(v2.1:Int) < 6)
   (.guard ((Sl.len (.powers v2.2.2.2.2)+Sl.len (.powers [(⟨v2.1,v2.2.2.2.1.get v2.1⟩:Power)]))*16≤140737488355328)
   (.leaf (.inl (i64.wrap (v2.2.2.1+1),v2.2.2.2.1,v2.2.2.2.2++[(⟨v2.1,v2.2.2.2.1.get v2.1⟩:Power)])))))
   (.leaf (.inl (i64.wrap (v2.2.2.1+1),v2.2.2.2.1,v2.2.2.2.2))))))
  (.leaf (.inr x2)))
def zz6 (x0:Int) (x1:(A6 Int)) (x2:(List Power)):=zbl (fun s:Int×(A6 Int)×(List Power)=>(zq9 s.1 s.2.1 s.2.2).run) (x0,x1,x2)
def zbdd:Ann:=⟨[([0,1,0,1,1,0,0,1,1,0,0,1,0,1,1,1,1],za2p)],[],[],zaxt,[]⟩
def zbde:=EndD.mk (LQ.kp 0 0 (LQ.k (LQ.c (.own 1)) (LQ.v intP (LQ.seq (LP.q (a6L (LP.one intP))) (Par.q zf))))) ⟨[3,6,25],[.nilown 6 154 (.powers [])]⟩ [.cells 44 6,.rows 154]
def zaxw:=EndD.mk (LQ.k (LQ.c (.own 0)) (Par.q zf)) ⟨[6],[.nilown 6 154 (.powers [])]⟩ [.rows 154]
def za2q:St→Option LR:=L1 73 6 0 zbde (.exit 2) zaxw (u3 zq9)
def zs146c:=sub (fb Tryz.f62) [0,1,0,1,1,1,1]
theorem zbdf:zk (zyN).env 0 zs146c za2q :=
 zb5 (A:=zbdd) zhN fM ⟨zbdc,trivial⟩ (k:=z8 zs146c) (by kernel_rfl) rfl (by rintro ⟨x0,x1,x2⟩;kernel_rfl)
def zadk (a0:Stake): Tr ((List Power)) :=
 (.bind (zz4 (⟨(⟨a0.Validators.Tokens.x0,a0.Validators.Shares.x0,a0.Validators.Lost.x0,a0.Validators.Jailed.x0,a0.Validators.Dead.x0⟩:zi),(⟨a0.Validators.Tokens.x1,a0.Validators.Shares.x1,a0.Validators.Lost.x1,a0.Validators.Jailed.x1,a0.Validators.Dead.x1⟩:zi),(⟨a0.Validators.Tokens.x2,a0.Validators.Shares.x2,a0.Validators.Lost.x2,a0.Validators.Jailed.x2,a0.Validators.Dead.x2⟩:zi),(⟨a0.Validators.Tokens.x3,a0.Validators.Shares.x3,a0.Validators.Lost.x3,a0.Validators.Jailed.x3,a0.Validators.Dead.x3⟩:zi),(⟨a0.Validators.Tokens.x4,a0.Validators.Shares.x4,a0.Validators.Lost.x4,a0.Validators.Jailed.x4,a0.Validators.Dead.x4⟩:zi),(⟨a0.Validators.Tokens.x5,a0.Validators.Shares.x5,a0.Validators.Lost.x5,a0.Validators.Jailed.x5,a0.Validators.Dead.x5⟩:zi)⟩:(A6 zi)) 0 (⟨0,0,0,0,0,0⟩:(A6 Int))) fun v1 =>
 (.bind (zz6 0 v1 []) fun v3 =>
 (.leaf v3)))
def z9k (a0:Stake):=(zadk a0).run
def zakt:SpecT:=zn 0 (Par.q (Par.ofLP stakeL)) 1 [] zadk default (Par.q zf) 1 []
theorem zaqo:ze Tryz.prog 62 (zakt).spec :=
 sK (A:=⟨[([0,1,0,1,1],za2o),([0,1,0,1,1,1,1],za2q)],[],[],zaxt,[]⟩) zhN fM Tryz.func62 (c:=(fb Tryz.f62)) (by kernel_rfl) (Lc:=0) ⟨zbc9,zbdf,trivial⟩ _ _ 6 _ _ _ _ _ _ [.pub 2] (by rintro a0;kernel_rfl)
end
