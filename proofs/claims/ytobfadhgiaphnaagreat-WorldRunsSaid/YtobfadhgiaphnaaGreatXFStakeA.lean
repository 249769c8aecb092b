/-
  The functions, each by its tree.
-/
import Derived.Test.YtobfadhgiaphnaaGreatXAbFun
import Derived.Test.YtobfadhgiaphnaaGreatXAbStructs
import Derived.Test.YtobfadhgiaphnaaGreatXFBank
import Derived.Test.YtobfadhgiaphnaaGreatXFLine
import Derived.Test.YtobfadhgiaphnaaGreatXFRatio
import Derived.Test.YtobfadhgiaphnaaGreatXFacts
namespace Go.Proofs.YtobfadhgiaphnaaGreat.Ab
open Go Go.RowKit
set_option maxRecDepth 100000
set_option linter.unusedVariables false
set_option linter.unusedSimpArgs false
noncomputable section
noncomputable def zy52:EnvT:=⟨Tryz.prog,zw [(140,zad7)]⟩
theorem zh52:(zy52).Ok:=zd ⟨zaks,trivial⟩
def z3r  : Tr (Stake) :=
 (.bind (z3f) fun v1 =>
 (.leaf (⟨v1,(default:Validators),(⟨(⟨0,0,0,0,0,0⟩:(A6 Int)),(⟨0,0,0,0,0,0⟩:(A6 Int)),(⟨0,0,0,0,0,0⟩:(A6 Int)),(⟨0,0,0,0,0,0⟩:(A6 Int))⟩:(A4 (A6 Int))),[],1⟩:Stake)))
def zz8  := (z3r ).run
def zaay:SpecT:=zm 0 LQ.nil 0 [] (fun s=>z3r ) default (Par.q (Par.ofLP stakeL)) 1 []
theorem zaie:ze Tryz.prog 92 (zaay).spec :=
 sK (A:=⟨[],[],[],[[0],[0]],[]⟩) zh52 fM Tryz.func92 (c:=(fb Tryz.f92)) (by kernel_rfl) (Lc:=0) trivial _ _ 3 _ _ _ _ _ _ [.pubB 0] (by rintro _;kernel_rfl)
def zv53:List (List Nat):=[[1],[1,31],[2],[1,3,4,5],[1,3,4,5,33,34],[1,3,4,5,33,34,35],[1,3,4,5,6,7,33,34],[1,3,4,5,6,7,33,34,72],[2],[1,3,4,5,6,7,8,33,34],[1,3,4,5,6,7,8,33,34,73],[1,3,4,5,6,7,8,33,34,73,74],[1,3,4,5,6,7,8,9,33,34,73],[1,3,4,5,6,7,8,9,33,34,73,83],[2],[1,3,4,5,6,7,8,33,34,73],[1,3,4,5,6,7,8,33,34,73],[1,3,4,5,7,33,34,96],[2],[1,3,4,5,33,34],[1,3,4,5,33,34],[1,3,4,5,107,108,109],[1,3,4,5,107,108,109,110],[1,3,4,5,10,11,107,108,109],[1,3,4,5,11,107,108,109,175],[2],[1,3,4,5,107,108,109],[1,3,4,5,107,108,109],[2]]
noncomputable def zy53:EnvT:=⟨Tryz.prog,zw [(147,zlp),(148,zl9)]⟩
theorem zh53:(zy53).Ok:=zd ⟨zma,zlo,trivial⟩
def zgf (x0 x1 x2 x3 x4:Int) (x5:(A6 zi)) (x6 x7:Int) (x8:Stake) (x9:zi): Tr ((Int×Int×Int×Int×Int×(A6 zi)×Int×Int×Stake×zi)⊕((Bool)⊕(Int×Int×Int×Int×(A6 zi)×Int×Stake×zi))) :=
 (.ite (decide (x7 < 4))
  (.guard ((0:Int)≤x7∧(x7:Int) < 4)
  (.guard ((0:Int)≤x3∧(x3:Int) < 6)
  (.bind (zai (A46.get x8.Shares x7 x3)) fun v3 =>
  (.ite (!v3)
   (.leaf (.inr (.inl false)))
   (.guard ((0:Int)≤x7∧(x7:Int) < 4)
   (.guard ((0:Int)≤x3∧(x3:Int) < 6)
   (.leaf (.inl (x0,x1,x2,x3,IntKind.i64.wrap (x4+(A46.get x8.Shares x7 x3)),x5,x6,IntKind.i64.wrap (x7+1),x8,x9)))))))))
  (.leaf (.inr (.inr (x0,x1,x2,x4,x5,x6,x8,x9)))))
def zqk (x0 x1 x2 x3 x4:Int) (x5:(A6 zi)) (x6 x7:Int) (x8:Stake) (x9:zi):=zbp (fun s:Int×Int×Int×Int×Int×(A6 zi)×Int×Int×Stake×zi=>(zgf s.1 s.2.1 s.2.2.1 s.2.2.2.1 s.2.2.2.2.1 s.2.2.2.2.2.1 s.2.2.2.2.2.2.1 s.2.2.2.2.2.2.2.1 s.2.2.2.2.2.2.2.2.1 s.2.2.2.2.2.2.2.2.2).run) (x0,x1,x2,x3,x4,x5,x6,x7,x8,x9)
def zbfv:Ann:=⟨[],[],[],zv53,[]⟩
def zbfw:=EndD.mk (LQ.kp 0 0 (LQ.v intP (LQ.v intP (LQ.v intP (LQ.v intP (LQ.kp 1 0 (LQ.v intP (LQ.seq (Par.q (Par.ofLP (a6L zen))) (LQ.v intP (LQ.v intP (LQ.seq (LP.q stakeL) (LP.q zen)))))))))))) ⟨[1,3,4,5,6,7,8,33,34,73],[]⟩ [.cells 48 63,.cells 42 5]
def za1y:=EndD.mk (Par.q boolP) ⟨[2],[]⟩ []
def za1z:=EndD.mk (LQ.kp 0 0 (LQ.v intP (LQ.v intP (LQ.v intP (LQ.kp 1 0 (LQ.v intP (LQ.seq (Par.q (Par.ofLP (a6L zen))) (LQ.v intP (LQ.seq (LP.q stakeL) (LP.q zen)))))))))) ⟨[1,3,4,5,7,8,33,34],[]⟩ [.cells 48 63,.cells 42 5]
def za6s:St→Option LR:=L2 200 4 0 zbfw .ret za1y (.exit 2) za1z (u10 zgf)
def zs53a:=sub (fb Tryz.f109) [0,1,0,1,1,1,0,0,1,1,0,0,1,0,1,1,1]
theorem zbfx:zk (zy53).env 0 zs53a za6s :=
 zkf (A:=zbfv) zh53 fM trivial (k:=zab zs53a) (by kernel_rfl) rfl rfl (by rintro ⟨x0,x1,x2,x3,x4,x5,x6,x7,x8,x9⟩;kernel_rfl)
def zgg (x0 x1 x2:Int) (x3:(A6 zi)) (x4:Int) (x5:Stake): Tr ((Int×Int×Int×(A6 zi)×Int×Stake)⊕((Bool)⊕(Int×Int×Int×Stake))) :=
 (.ite (decide (x4 < 6))
  (.guard ((0:Int)≤x4∧(x4:Int) < 6)
  (.bind (zai (A6.get ⟨x3.x0.Tokens,x3.x1.Tokens,x3.x2.Tokens,x3.x3.Tokens,x3.x4.Tokens,x3.x5.Tokens⟩ x4)) fun v2 =>
  (.guard (((!v2)=false→((zai (A6.get ⟨x3.x0.Shares,x3.x1.Shares,x3.x2.Shares,x3.x3.Shares,x3.x4.Shares,x3.x5.Shares⟩ x4)).isSome=true)∧True))
  (.guard ((((!v2)||(!((zai (A6.get ⟨x3.x0.Shares,x3.x1.Shares,x3.x2.Shares,x3.x3.Shares,x3.x4.Shares,x3.x5.Shares⟩ x4)).getD default)))=false→((zai (A6.get ⟨x3.x0.Lost,x3.x1.Lost,x3.x2.Lost,x3.x3.Lost,x3.x4.Lost,x3.x5.Lost⟩ x4)).isSome=true)∧True))
  (.ite (((((!v2)||(!((zai (A6.get ⟨x3.x0.Shares,x3.x1.Shares,x3.x2.Shares,x3.x3.Shares,x3.x4.Shares,x3.x5.Shares⟩ x4)).getD default)))||(!((zai (A6.get ⟨x3.x0.Lost,x3.x1.Lost,x3.x2.Lost,x3.x3.Lost,x3.x4.Lost,x3.x5.Lost⟩ x4)).getD default)))||(((A6.get ⟨x3.x0.Shares,x3.x1.Shares,x3.x2.Shares,x3.x3.Shares,x3.x4.Shares,x3.x5.Shares⟩ x4)==0)&&(decide ((A6.get ⟨x3.x0.Tokens,x3.x1.Tokens,x3.x2.Tokens,x3.x3.Tokens,x3.x4.Tokens,x3.x5.Tokens⟩ x4) > 0))))||((A6.get ⟨x3.x0.Dead,x3.x1.Dead,x3.x2.Dead,x3.x3.Dead,x3.x4.Dead,x3.x5.Dead⟩ x4)&&(!(A6.get ⟨x3.x0.Jailed,x3.x1.Jailed,x3.x2.Jailed,x3.x3.Jailed,x3.x4.Jailed,x3.x5.Jailed⟩ x4))))
   (.leaf (.inr (.inl false)))
   (.two (zqk x0 x1 x2 x4 0 x3 x4 0 x5 (⟨A6.get ⟨x3.x0.Tokens,x3.x1.Tokens,x3.x2.Tokens,x3.x3.Tokens,x3.x4.Tokens,x3.x5.Tokens⟩ x4,A6.get ⟨x3.x0.Shares,x3.x1.Shares,x3.x2.Shares,x3.x3.Shares,x3.x4.Shares,x3.x5.Shares⟩ x4,A6.get ⟨x3.x0.Lost,x3.x1.Lost,x3.x2.Lost,x3.x3.Lost,x3.x4.Lost,x3.x5.Lost⟩ x4,A6.get ⟨x3.x0.Jailed,x3.x1.Jailed,x3.x2.Jailed,x3.x3.Jailed,x3.x4.Jailed,x3.x5.Jailed⟩ x4,A6.get ⟨x3.x0.Dead,x3.x1.Dead,x3.x2.Dead,x3.x3.Dead,x3.x4.Dead,x3.x5.Dead⟩ x4⟩:zi)) (fun v4 =>
    (.leaf (.inr (.inl v4)))) (fun v5 =>
    (.ite (v5.2.2.2.1 != v5.2.2.2.2.2.2.2.Shares)
     (.leaf (.inr (.inl false)))
     (.leaf (.inl (IntKind.i64.wrap (v5.1+v5.2.2.2.2.2.2.2.Tokens),v5.2.1,IntKind.i64.wrap (v5.2.2.1+v5.2.2.2.2.2.2.2.Lost),v5.2.2.2.2.1,IntKind.i64.wrap (v5.2.2.2.2.2.1+1),v5.2.2.2.2.2.2.1)))))))))))
  (.leaf (.inr (.inr (x0,x1,x2,(⟨x5.Bank,x5.Validators,x5.Shares,x5.Waits,x5.Next⟩:Stake))))))
def zql (x0 x1 x2:Int) (x3:(A6 zi)) (x4:Int) (x5:Stake):=zbp (fun s:Int×Int×Int×(A6 zi)×Int×Stake=>(zgg s.1 s.2.1 s.2.2.1 s.2.2.2.1 s.2.2.2.2.1 s.2.2.2.2.2).run) (x0,x1,x2,x3,x4,x5)
def zbfy:Ann:=⟨[([0,1,0,1,1,1,0,0,1,1,0,0,1,0,1,1,1],za6s)],[],[],zv53,[]⟩
def zbfz:=EndD.mk (LQ.kp 0 0 (LQ.v intP (LQ.v intP (LQ.v intP (LQ.seq (Par.q (Par.ofLP (a6L zen))) (LQ.v intP (LP.q stakeL))))))) ⟨[1,3,4,5,33,34],[]⟩ [.cells 48 63]
def za10:=EndD.mk (Par.q boolP) ⟨[2],[]⟩ []
def za11:=EndD.mk (LQ.kp 0 0 (LQ.v intP (LQ.v intP (LQ.v intP (LP.q stakeL))))) ⟨[1,3,4,5],[]⟩ [.cells 48 63]
def za6t:St→Option LR:=L2 200 4 0 zbfz .ret za10 (.exit 0) za11 (u6 zgg)
def zs53b:=sub (fb Tryz.f109) [0,1,0,1,1,1]
theorem zbf0:zk (zy53).env 0 zs53b za6t :=
 zkf (A:=zbfy) zh53 fM ⟨zbfx,trivial⟩ (k:=zab zs53b) (by kernel_rfl) rfl rfl (by rintro ⟨x0,x1,x2,x3,x4,x5⟩;kernel_rfl)
def zi9 (x0 x1 x2:Int) (x3:(List Wait)) (x4 x5:Int) (x6:Stake): Tr ((Int×Int×Int×(List Wait)×Int×Int×Stake)⊕((Bool)⊕(Int×Int×Int×Stake))) :=
 (.ite (decide (x5 < x4))
  (.guard ((0:Int)≤x5∧x5 < ((Sl.len (.waits x3):Nat):Int))
  (.guard (((decide (x5 > 0))=true→(((decide (((x3.getD x5.toNat default).Number) < 1))||(decide (((x3.getD x5.toNat default).Number)≥x6.Next)))=false→((0:Int)≤(IntKind.i64.wrap (x5 - 1))∧(IntKind.i64.wrap (x5 - 1)) < ((Sl.len (.waits x6.Waits):Nat):Int))∧True)))
  (.guard (((((((((decide (((x3.getD x5.toNat default).Number) < 1))||(decide (((x3.getD x5.toNat default).Number)≥x6.Next)))||((decide (x5 > 0))&&(decide (((x6.Waits.getD ((IntKind.i64.wrap (x5 - 1)).toNat) default).Number)≥((x3.getD x5.toNat default).Number)))))||(decide (((x3.getD x5.toNat default).D) < 0)))||(decide (((x3.getD x5.toNat default).D)≥4)))||(decide (((x3.getD x5.toNat default).V) < 0)))||(decide (((x3.getD x5.toNat default).V)≥6)))=false→((zai ((x3.getD x5.toNat default).Amount)).isSome=true)∧True))
  (.ite ((((((((((decide (((x3.getD x5.toNat default).Number) < 1))||(decide (((x3.getD x5.toNat default).Number)≥x6.Next)))||((decide (x5 > 0))&&(decide (((x6.Waits.getD ((IntKind.i64.wrap (x5 - 1)).toNat) default).Number)≥((x3.getD x5.toNat default).Number)))))||(decide (((x3.getD x5.toNat default).D) < 0)))||(decide (((x3.getD x5.toNat default).D)≥4)))||(decide (((x3.getD x5.toNat default).V) < 0)))||(decide (((x3.getD x5.toNat default).V)≥6)))||(!((zai ((x3.getD x5.toNat default).Amount)).getD default)))||(decide (((x3.getD x5.toNat default).Height) < 0)))||(decide (((x3.getD x5.toNat default).Due) < 0)))
   (.leaf (.inr (.inl false)))
   (.leaf (.inl (x0,IntKind.i64.wrap (x1+((x3.getD x5.toNat default).Amount)),x2,x3,x4,IntKind.i64.wrap (x5+1),x6)))))))
  (.leaf (.inr (.inr (x0,x1,x2,x6)))))
def zlf (x0 x1 x2:Int) (x3:(List Wait)) (x4 x5:Int) (x6:Stake):=zbp (fun s:Int×Int×Int×(List Wait)×Int×Int×Stake=>(zi9 s.1 s.2.1 s.2.2.1 s.2.2.2.1 s.2.2.2.2.1 s.2.2.2.2.2.1 s.2.2.2.2.2.2).run) (x0,x1,x2,x3,x4,x5,x6)
def zbf1:Ann:=⟨[],[],[],zv53,[]⟩
def zbf2:=EndD.mk (LQ.kp 0 0 (LQ.v intP (LQ.v intP (LQ.v intP (LQ.v zca (LQ.v intP (LQ.v intP (LP.q stakeL)))))))) ⟨[1,3,4,5,107,108,109],[.pub 107,.nilsl 107 (.waits [])]⟩ [.cells 48 63]
def za12:=EndD.mk (Par.q boolP) ⟨[2],[]⟩ []
def za13:=EndD.mk (LQ.kp 0 0 (LQ.v intP (LQ.v intP (LQ.v intP (LP.q stakeL))))) ⟨[1,3,4,5],[]⟩ [.cells 48 63]
def za6u:St→Option LR:=L2 200 4 0 zbf2 .ret za12 (.exit 4) za13 (u7 zi9)
def zs53c:=sub (fb Tryz.f109) [0,1,0,1,1,1,1]
theorem zbf3:zk (zy53).env 0 zs53c za6u :=
 zkf (A:=zbf1) zh53 fM trivial (k:=zab zs53c) (by kernel_rfl) rfl rfl (by rintro ⟨x0,x1,x2,x3,x4,x5,x6⟩;kernel_rfl)
def zz9 (a0:Stake): Tr (Bool) :=
 (.bind (zgt a0.Bank) fun v1 =>
 (.ite ((((!v1)||(decide (a0.Next < 1)))||(decide (a0.Next > 1125899906842624)))||(decide (((a0.Waits.length:Nat):Int) > 60)))
  (.leaf false)
  (.two (zql 0 0 0 (⟨(⟨a0.Validators.Tokens.x0,a0.Validators.Shares.x0,a0.Validators.Lost.x0,a0.Validators.Jailed.x0,a0.Validators.Dead.x0⟩:zi),(⟨a0.Validators.Tokens.x1,a0.Validators.Shares.x1,a0.Validators.Lost.x1,a0.Validators.Jailed.x1,a0.Validators.Dead.x1⟩:zi),(⟨a0.Validators.Tokens.x2,a0.Validators.Shares.x2,a0.Validators.Lost.x2,a0.Validators.Jailed.x2,a0.Validators.Dead.x2⟩:zi),(⟨a0.Validators.Tokens.x3,a0.Validators.Shares.x3,a0.Validators.Lost.x3,a0.Validators.Jailed.x3,a0.Validators.Dead.x3⟩:zi),(⟨a0.Validators.Tokens.x4,a0.Validators.Shares.x4,a0.Validators.Lost.x4,a0.Validators.Jailed.x4,a0.Validators.Dead.x4⟩:zi),(⟨a0.Validators.Tokens.x5,a0.Validators.Shares.x5,a0.Validators.Lost.x5,a0.Validators.Jailed.x5,a0.Validators.Dead.x5⟩:zi)⟩:(A6 zi)) 0 a0) (fun v6 =>
   (.leaf v6)) (fun v7 =>
   (.two (zlf v7.1 v7.2.1 v7.2.2.1 v7.2.2.2.Waits ((v7.2.2.2.Waits.length:Nat):Int) 0 v7.2.2.2) (fun v8 =>
    (.leaf v8)) (fun v9 =>
    (.leaf (((v9.1==v9.2.2.2.Bank.Bonded)&&(v9.2.1==v9.2.2.2.Bank.Waiting))&&(v9.2.2.1==v9.2.2.2.Bank.Burnt)))))))))
def zm3 (a0:Stake):=(zz9 a0).run
def zue:SpecT:=zm 0 (Par.q (Par.ofLP stakeL)) 1 [] zz9 default (Par.q boolP) 1 []
theorem zxv:ze Tryz.prog 109 (zue).spec :=
 sK (A:=⟨[([0,1,0,1,1,1],za6t),([0,1,0,1,1,1,1],za6u)],[],[],zv53,[]⟩) zh53 fM Tryz.func109 (c:=(fb Tryz.f109)) (by kernel_rfl) (Lc:=0) ⟨zbf0,zbf3,trivial⟩ _ _ 4 _ _ _ _ _ _ [] (by rintro a0;kernel_rfl)
noncomputable def zy54:EnvT:=⟨Tryz.prog,zw [(109,zue)]⟩
theorem zh54:(zy54).Ok:=zd ⟨zxv,trivial⟩
def zxw (a0:Stake) (a1 a2:Int): Tr (Int) :=
 (.bind (zm3 a0) fun v1 =>
 (.ite (!v1)
  (.leaf 2)
  (.ite ((((decide (a1 < 0))||(decide (a1≥4)))||(decide (a2 < 0)))||(decide (a2≥6)))
   (.leaf 4)
   (.leaf 0))))
def zel (a0:Stake) (a1 a2:Int):=(zxw a0 a1 a2).run
def zg9:SpecT:=zm 0 (LQ.v (Par.ofLP stakeL) (LQ.v intP (Par.q intP))) 3 [] (u3 zxw) default (Par.q intP) 1 []
theorem zh8:ze Tryz.prog 81 (zg9).spec :=
 sK (A:=⟨[],[],[],[[1,2,3],[1,2,7],[6],[11],[6],[6]],[]⟩) zh54 fM Tryz.func81 (c:=(fb Tryz.f81)) (by kernel_rfl) (Lc:=0) trivial _ _ 3 _ _ _ _ _ _ [] (by rintro ⟨a0,a1,a2⟩;kernel_rfl)
noncomputable def zy55:EnvT:=⟨Tryz.prog,zw [(81,zg9),(115,zo9),(116,zaao)]⟩
theorem zh55:(zy55).Ok:=zd ⟨zh8,zsd,zaia,trivial⟩
def zqm (a0:Stake) (a1 a2 a3:Int): Tr (Stake×Int) :=
 (.bind (zel a0 a1 a2) fun v1 =>
 (.ite (v1 != 0)
  (.leaf (a0,v1))
  (.guard ((0:Int)≤a2∧(a2:Int) < 6)
  (.ite (a0.Validators.Dead.get a2)
   (.leaf (a0,15))
   (.ite ((decide (a3 < 1))||(decide (a3 > 1125899906842624)))
    (.leaf (a0,2))
    (.ite (decide ((a0.Validators.Shares.get a2) > 0))
     (.ite ((a0.Validators.Tokens.get a2)==0)
      (.leaf (a0,8))
      (.guard ((zae a3 (a0.Validators.Shares.get a2) (a0.Validators.Tokens.get a2)).isSome=true)
      (.ite (((((zae a3 (a0.Validators.Shares.get a2) (a0.Validators.Tokens.get a2)).getD default).2) != 0)||(decide ((((zae a3 (a0.Validators.Shares.get a2) (a0.Validators.Tokens.get a2)).getD default).1) > (IntKind.i64.wrap (1125899906842624 - (a0.Validators.Shares.get a2))))))
       (.leaf (a0,6))
       (.ite ((((zae a3 (a0.Validators.Shares.get a2) (a0.Validators.Tokens.get a2)).getD default).1)==0)
        (.leaf (a0,8))
        (.bind (zt7 a0.Bank a1 a3) fun v2 =>
        (.ite (v2.2 != 0)
         (.leaf (a0,v2.2))
         (.guard ((0:Int)≤a1∧(a1:Int) < 4)
         (.guard ((0:Int)≤a2∧(a2:Int) < 6)
         (.guard ((0:Int)≤a1∧(a1:Int) < 4)
         (.guard ((0:Int)≤a2∧(a2:Int) < 6)
         (.leaf ((⟨v2.1,{ a0.Validators with Tokens:=(a0.Validators.Tokens.set a2 (IntKind.i64.wrap ((a0.Validators.Tokens.get a2)+a3))),Shares:=(a0.Validators.Shares.set a2 (IntKind.i64.wrap ((a0.Validators.Shares.get a2)+(((zae a3 (a0.Validators.Shares.get a2) (a0.Validators.Tokens.get a2)).getD default).1)))) },(A46.set a0.Shares a1 a2 (IntKind.i64.wrap ((A46.get a0.Shares a1 a2)+(((zae a3 (a0.Validators.Shares.get a2) (a0.Validators.Tokens.get a2)).getD default).1)))),a0.Waits,a0.Next⟩:Stake),0))))))))))))
     (.ite (a3==0)
      (.leaf (a0,8))
      (.bind (zt7 a0.Bank a1 a3) fun v3 =>
      (.ite (v3.2 != 0)
       (.leaf (a0,v3.2))
       (.guard ((0:Int)≤a1∧(a1:Int) < 4)
       (.guard ((0:Int)≤a2∧(a2:Int) < 6)
       (.guard ((0:Int)≤a1∧(a1:Int) < 4)
       (.guard ((0:Int)≤a2∧(a2:Int) < 6)
       (.leaf ((⟨v3.1,{ a0.Validators with Tokens:=(a0.Validators.Tokens.set a2 (IntKind.i64.wrap ((a0.Validators.Tokens.get a2)+a3))),Shares:=(a0.Validators.Shares.set a2 (IntKind.i64.wrap ((a0.Validators.Shares.get a2)+a3))) },(A46.set a0.Shares a1 a2 (IntKind.i64.wrap ((A46.get a0.Shares a1 a2)+a3))),a0.Waits,a0.Next⟩:Stake),0)))))))))))))))
def zob (a0:Stake) (a1 a2 a3:Int):=(zqm a0 a1 a2 a3).run
def zyq:SpecT:=zm 0 (LQ.v (Par.ofLP stakeL) (LQ.v intP (LQ.v intP (Par.q intP)))) 4 [] (u4 zqm) default (LQ.v (Par.ofLP stakeL) (Par.q intP)) 2 []
theorem z7a:ze Tryz.prog 79 (zyq).spec :=
 sK (A:=⟨[],[],[],[[1,2,3,4,8],[1,2,3,4,8,10],[1,2,3,4,8,10,22],[8,9],[1,2,3,4,8,11],[1,2,3,4,8,11,31],[8,9],[1,2,3,4,8,11,38],[8,9],[1,2,3,4,8,11,12],[1,2,3,4,8,11,12,45],[1,2,3,4,8,11,50],[8,9],[1,2,3,4,8,11,13,14],[1,2,3,4,8,11,13,75],[8,9],[1,2,3,4,8,11,12],[1,2,3,4,8,11,12,79],[8,9],[1,2,3,4,8,11,12,15,16],[1,2,3,4,8,11,12,15,16,90],[8,9],[1,2,3,4,8,11,12],[1,2,4,8,12],[4,8],[8,9]],[]⟩) zh55 fM Tryz.func79 (c:=(fb Tryz.f79)) (by kernel_rfl) (Lc:=0) trivial _ _ 5 _ _ _ _ _ _ [.pubB 8] (by rintro ⟨a0,a1,a2,a3⟩;kernel_rfl)
noncomputable def zy56:EnvT:=⟨Tryz.prog,zw [(81,zg9),(115,zo9),(117,z5i),(118,zcm)]⟩
theorem zh56:(zy56).Ok:=zd ⟨zh8,zsd,zac7,zdw,trivial⟩
def zm4 (a0:Stake) (a1 a2 a3:Int) (a4:Wait): Tr (Stake×Int) :=
 (.bind (zel a0 a1 a2) fun v1 =>
 (.ite (v1 != 0)
  (.leaf (a0,v1))
  (.ite ((((decide (a3 < 1))||(decide (a3 > 1125899906842624)))||(decide (a4.Height < 0)))||(decide (a4.Due < 0)))
   (.leaf (a0,2))
   (.guard ((0:Int)≤a1∧(a1:Int) < 4)
   (.guard ((0:Int)≤a2∧(a2:Int) < 6)
   (.ite (decide ((A46.get a0.Shares a1 a2) < a3))
    (.leaf (a0,7))
    (.ite ((decide (((a0.Waits.length:Nat):Int)≥60))||(decide (a0.Next≥1125899906842624)))
     (.leaf (a0,6))
     (.guard ((0:Int)≤a2∧(a2:Int) < 6)
     (.guard ((zae a3 (a0.Validators.Tokens.get a2) (a0.Validators.Shares.get a2)).isSome=true)
     (.ite (a3==(a0.Validators.Shares.get a2))
      (.ite ((a0.Validators.Tokens.get a2)==0)
       (.leaf (a0,8))
       (.bind (zkw a0.Bank (a0.Validators.Tokens.get a2)) fun v2 =>
       (.ite (v2.2 != 0)
        (.leaf (a0,v2.2))
        (.guard ((0:Int)≤a1∧(a1:Int) < 4)
        (.guard ((0:Int)≤a2∧(a2:Int) < 6)
        (.guard ((0:Int)≤a1∧(a1:Int) < 4)
        (.guard ((0:Int)≤a2∧(a2:Int) < 6)
        (.guard ((zy a0.Waits).isSome=true)
        (.guard ((Sl.len (.waits ((zy a0.Waits).getD default))+Sl.len (.waits [{ (a4:Wait) with Number:=a0.Next,D:=a1,V:=a2,Amount:=a0.Validators.Tokens.get a2 }]))*64≤140737488355328)
        (.leaf ((⟨v2.1,{ a0.Validators with Tokens:=(a0.Validators.Tokens.set a2 (IntKind.i64.wrap ((a0.Validators.Tokens.get a2) - (a0.Validators.Tokens.get a2)))),Shares:=(a0.Validators.Shares.set a2 (IntKind.i64.wrap ((a0.Validators.Shares.get a2) - a3))) },(A46.set a0.Shares a1 a2 (IntKind.i64.wrap ((A46.get a0.Shares a1 a2) - a3))),((zy a0.Waits).getD default)++[{ (a4:Wait) with Number:=a0.Next,D:=a1,V:=a2,Amount:=a0.Validators.Tokens.get a2 }],IntKind.i64.wrap (a0.Next+1)⟩:Stake),0)))))))))))
      (.ite ((((zae a3 (a0.Validators.Tokens.get a2) (a0.Validators.Shares.get a2)).getD default).1)==0)
       (.leaf (a0,8))
       (.bind (zkw a0.Bank (((zae a3 (a0.Validators.Tokens.get a2) (a0.Validators.Shares.get a2)).getD default).1)) fun v3 =>
       (.ite (v3.2 != 0)
        (.leaf (a0,v3.2))
        (.guard ((0:Int)≤a1∧(a1:Int) < 4)
        (.guard ((0:Int)≤a2∧(a2:Int) < 6)
        (.guard ((0:Int)≤a1∧(a1:Int) < 4)
        (.guard ((0:Int)≤a2∧(a2:Int) < 6)
        (.guard ((zy a0.Waits).isSome=true)
        (.guard ((Sl.len (.waits ((zy a0.Waits).getD default))+Sl.len (.waits [{ (a4:Wait) with Number:=a0.Next,D:=a1,V:=a2,Amount:=((zae a3 (a0.Validators.Tokens.get a2) (a0.Validators.Shares.get a2)).getD default).1 }]))*64≤140737488355328)
        (.leaf ((⟨v3.1,{ a0.Validators with Tokens:=(a0.Validators.Tokens.set a2 (IntKind.i64.wrap ((a0.Validators.Tokens.get a2) - (((zae a3 (a0.Validators.Tokens.get a2) (a0.Validators.Shares.get a2)).getD default).1)))),Shares:=(a0.Validators.Shares.set a2 (IntKind.i64.wrap ((a0.Validators.Shares.get a2) - a3))) },(A46.set a0.Shares a1 a2 (IntKind.i64.wrap ((A46.get a0.Shares a1 a2) - a3))),((zy a0.Waits).getD default)++[{ (a4:Wait) with Number:=a0.Next,D:=a1,V:=a2,Amount:=((zae a3 (a0.Validators.Tokens.get a2) (a0.Validators.Shares.get a2)).getD default).1 }],IntKind.i64.wrap (a0.Next+1)⟩:Stake),0)))))))))))))))))))))
def zls (a0:Stake) (a1 a2 a3:Int) (a4:Wait):=(zm4 a0 a1 a2 a3 a4).run
def zuf:SpecT:=zm 0 (LQ.v (Par.ofLP stakeL) (LQ.v intP (LQ.v intP (LQ.v intP (Par.q (Par.ofLP zaoa)))))) 5 [] (u5 zm4) default (LQ.v (Par.ofLP stakeL) (Par.q intP)) 2 []
theorem z3s:ze Tryz.prog 80 (zuf).spec :=
 sK (A:=⟨[],[],[],[[1,2,3,5,9,10],[1,2,3,5,9,10,12],[1,2,3,5,9,10,12,23],[10,11],[1,2,3,5,9,10,41],[10,11],[1,2,3,5,9,10,50],[10,11],[1,2,3,5,9,10,60],[10,11],[1,2,3,5,9,10,13],[1,2,3,5,9,10,13,14],[1,2,3,5,9,10,13,14,83],[1,2,3,5,9,10,13,14],[1,2,3,5,9,10,13,14,89],[10,11],[1,2,3,5,9,10,13,14,16,17],[1,2,3,5,9,10,13,14,16,17,99],[10,11],[1,2,3,5,9,10,13,14],[1,2,3,5,9,10,14],[1,2,5,9,10,14],[5,9,10],[5,10],[5,10],[10,11]],[]⟩) zh56 fM Tryz.func80 (c:=(fb Tryz.f80)) (by kernel_rfl) (Lc:=0) trivial _ _ 9 _ _ _ _ _ _ [.pubB 10] (by rintro ⟨a0,a1,a2,a3,a4⟩;kernel_rfl)
def zv57:List (List Nat):=[[1,2,3,6],[1,2,3,6,13],[6],[1,2,3,6],[1,2,3,6,21,22],[1,2,3,6,21,22,23],[1,2,3,6,7,21,22],[1,2,3,6,7,21,22,34],[1,2,3,6,21,22],[1,2,3,6,21,22],[6]]
noncomputable def zy57:EnvT:=⟨Tryz.prog,zw [(118,zcm)]⟩
theorem zh57:(zy57).Ok:=zd ⟨zdw,trivial⟩
def zfc (x0 x1 x2 x3:Int) (x4 x5:Stake): Tr ((Int×Int×Int×Int×Stake×Stake)⊕(Stake×Stake)) :=
 (.ite (decide (x3 < x2))
  (.guard ((0:Int)≤x3∧x3 < ((Sl.len (.waits x4.Waits):Nat):Int))
  (.guard ((0:Int)≤x0∧(x0:Int) < 2)
  (.ite (decide ((A2.get ⟨(x4.Waits.getD x3.toNat default).h0,(x4.Waits.getD x3.toNat default).h1⟩ x0)≤x1))
   (.guard ((0:Int)≤x3∧x3 < ((Sl.len (.waits x4.Waits):Nat):Int))
   (.guard ((0:Int)≤x0∧(x0:Int) < 2)
   (.leaf (.inl (x0,x1,x2,IntKind.i64.wrap (x3+1),{ x4 with Waits:=x4.Waits.set x3.toNat ({ ((x4.Waits.getD x3.toNat default):Wait) with h0:=if x0=0 then 0 else (x4.Waits.getD x3.toNat default).h0,h1:=if x0=1 then 0 else (x4.Waits.getD x3.toNat default).h1 }) },x5)))))
   (.leaf (.inl (x0,x1,x2,IntKind.i64.wrap (x3+1),x4,x5))))))
  (.leaf (.inr (x4,x5))))
def zlt (x0 x1 x2 x3:Int) (x4 x5:Stake):=zbp (fun s:Int×Int×Int×Int×Stake×Stake=>(zfc s.1 s.2.1 s.2.2.1 s.2.2.2.1 s.2.2.2.2.1 s.2.2.2.2.2).run) (x0,x1,x2,x3,x4,x5)
def zbf4:Ann:=⟨[],[],[],zv57,[]⟩
def zbf5:=EndD.mk (LQ.map (LQ.v intP (LQ.v intP (LQ.kp 0 0 (LQ.kp 1 0 (LQ.v intP (LQ.v intP (LQ.seq (LP.q bankL) (LQ.seq (LP.q validatorsL) (LQ.seq (LP.q (a4L (a6L (LP.one intP)))) (LQ.k (LQ.c (.own 2)) (LQ.v intP (LQ.seq (LP.q stakeL) (Par.q zca))))))))))))) (fun x=>(x.1,x.2.1,x.2.2.1,x.2.2.2.1,(⟨(d4 x).1,(d4 x).2.1,(d4 x).2.2.1,(d8 x).2,(d4 x).2.2.2.1⟩:Stake),(d8 x).1)) (fun y=>(y.1,y.2.1,y.2.2.1,y.2.2.2.1,(d4 y).1.Bank,(d4 y).1.Validators,(d4 y).1.Shares,(d4 y).1.Next,(d4 y).2,(d4 y).1.Waits)) (fun _=>rfl)) ⟨[1,2,3,6,21,22],[.nilcell 3 61 127 (.waits [])]⟩ [.cells 48 63,.cells 48 63,.rows 127]
def za14:=EndD.mk (LQ.map (LQ.kp 0 0 (LQ.kp 1 0 (LQ.seq (LP.q bankL) (LQ.seq (LP.q validatorsL) (LQ.seq (LP.q (a4L (a6L (LP.one intP)))) (LQ.k (LQ.c (.own 2)) (LQ.v intP (LQ.seq (LP.q stakeL) (Par.q zca))))))))) (fun x=>((⟨x.1,x.2.1,x.2.2.1,(d4 x).2,x.2.2.2.1⟩:Stake),(d4 x).1)) (fun y=>(y.1.Bank,y.1.Validators,y.1.Shares,y.1.Next,y.2,y.1.Waits)) (fun _=>rfl)) ⟨[3,6],[.nilcell 3 61 127 (.waits [])]⟩ [.cells 48 63,.cells 48 63,.rows 127]
def za6v:St→Option LR:=L1 44 5 0 zbf5 (.exit 0) za14 (u6 zfc)
def zs57a:=sub (fb Tryz.f161) [0,1,0,1,1,1]
theorem zbf6:zk (zy57).env 0 zs57a za6v :=
 zb2 (A:=zbf4) zh57 fM trivial (k:=zab zs57a) (by kernel_rfl) rfl (by rintro ⟨x0,x1,x2,x3,x4,x5⟩;kernel_rfl)
def zso (a0:Stake) (a1 a2:Int): Tr (Stake) :=
 (.ite ((decide (a1 < 0))||(decide (a1≥2)))
  (.leaf a0)
  (.bind (zy a0.Waits) fun v1 =>
  (.bind (zlt a1 a2 ((v1.length:Nat):Int) 0 ({ a0 with Waits:=v1 }) (default:Stake)) fun v2 =>
  (.leaf v2.1))))
def zhp (a0:Stake) (a1 a2:Int):=(zso a0 a1 a2).run
def zsp:SpecT:=zm 0 (LQ.v (Par.ofLP stakeL) (LQ.v intP (Par.q intP))) 3 [] (u3 zso) default (Par.q (Par.ofLP stakeL)) 1 []
theorem zyr:ze Tryz.prog 161 (zsp).spec :=
 sK (A:=⟨[([0,1,0,1,1,1],za6v)],[],[],zv57,[]⟩) zh57 fM Tryz.func161 (c:=(fb Tryz.f161)) (by kernel_rfl) (Lc:=0) ⟨zbf6,trivial⟩ _ _ 5 _ _ _ _ _ _ [.pubB 6] (by rintro ⟨a0,a1,a2⟩;kernel_rfl)
def zv58:List (List Nat):=[[1,2,4],[1,2,4,15],[4,5,6],[1,2,4,7],[1,2,4,7,8],[1,2,4,7,8,18,19,20],[1,2,4,7,8,18,19,20,21],[1,2,4,7,8,10,18,19,20],[1,2,4,7,8,10,18,19,20,33],[1,2,4,7,8,18,19,20],[1,2,4,7,8,10,11,12,18,19,20],[1,2,4,7,8,10,11,12,18,19,20,49],[4,5,6],[1,2,4,7,8,10,18,19,20],[1,2,4,7,8,18,19,20],[1,2,4,7,8,18,19,20],[2,4,8],[4,5,6]]
noncomputable def zy58:EnvT:=⟨Tryz.prog,zw [(109,zue),(167,zad9)]⟩
theorem zh58:(zy58).Ok:=zd ⟨zxv,zaku,trivial⟩
def zk0 (x0:Int) (x1:(List Wait)) (x2 x3:Int) (x4 x5:Stake) (x6:(List Wait)) (x7:(List Int)): Tr ((Int×(List Wait)×Int×Int×Stake×Stake×(List Wait)×(List Int))⊕(((List Int)×Int×Stake)⊕(Stake×Stake×(List Wait)×(List Int)))) :=
 (.ite (decide (x3 < x2))
  (.guard ((0:Int)≤x3∧x3 < ((Sl.len (.waits x1):Nat):Int))
  (.ite ((decide (((x1.getD x3.toNat default).Due) > x0))||(!((((x1.getD x3.toNat default).h0)==0)&&((((x1.getD x3.toNat default).h1)==0)&&true))))
   (.guard ((Sl.len (.waits x6)+Sl.len (.waits [(x1.getD x3.toNat default)]))*64≤140737488355328)
   (.leaf (.inl (x0,x1,x2,IntKind.i64.wrap (x3+1),x4,x5,x6++[(x1.getD x3.toNat default)],x7))))
   (.bind (z3k x4.Bank ((x1.getD x3.toNat default).D) ((x1.getD x3.toNat default).Amount)) fun v2 =>
   (.ite (v2.2 != 0)
    (.leaf (.inr (.inl ([],v2.2,x4))))
    (.guard ((Sl.len (.ints x7)+Sl.len (.ints [(x1.getD x3.toNat default).Number]))*8≤140737488355328)
    (.leaf (.inl (x0,x1,x2,IntKind.i64.wrap (x3+1),{ x4 with Bank:=v2.1 },x5,x6,x7++[(x1.getD x3.toNat default).Number]))))))))
  (.leaf (.inr (.inr (x4,x5,x6,x7)))))
def zsq (x0:Int) (x1:(List Wait)) (x2 x3:Int) (x4 x5:Stake) (x6:(List Wait)) (x7:(List Int)):=zbp (fun s:Int×(List Wait)×Int×Int×Stake×Stake×(List Wait)×(List Int)=>(zk0 s.1 s.2.1 s.2.2.1 s.2.2.2.1 s.2.2.2.2.1 s.2.2.2.2.2.1 s.2.2.2.2.2.2.1 s.2.2.2.2.2.2.2).run) (x0,x1,x2,x3,x4,x5,x6,x7)
def zbf7:Ann:=⟨[],[],[],zv58,[]⟩
def zbf8:=EndD.mk (LQ.v intP (LQ.kp 0 0 (LQ.kp 1 0 (LQ.k (LQ.c (.own 2)) (LQ.k (LQ.c (.own 3)) (LQ.v zca (LQ.v intP (LQ.v intP (LQ.seq (LP.q stakeL) (LQ.seq (LP.q stakeL) (LQ.v zca (Par.q zbc)))))))))))) ⟨[1,2,4,7,8,18,19,20],[.nilown 7 127 (.waits []),.nilown 8 3 (.ints []),.pub 18,.nilsl 18 (.waits [])]⟩ [.cells 48 63,.cells 48 63,.rows 127,.rows 3]
def za15:=EndD.mk (LQ.kp 0 0 (LQ.v zbc (LQ.v intP (LP.q stakeL)))) ⟨[4,5,6],[.pubB 4,.pub 5,.nilsl 5 (.ints [])]⟩ [.cells 48 63]
def za16:=EndD.mk (LQ.kp 0 0 (LQ.kp 1 0 (LQ.k (LQ.c (.own 2)) (LQ.k (LQ.c (.own 3)) (LQ.seq (LP.q stakeL) (LQ.seq (LP.q stakeL) (LQ.v zca (Par.q zbc)))))))) ⟨[2,4,7,8],[.nilown 7 127 (.waits []),.nilown 8 3 (.ints [])]⟩ [.cells 48 63,.cells 48 63,.rows 127,.rows 3]
def za6w:St→Option LR:=L2 64 10 0 zbf8 .ret za15 (.exit 0) za16 (u8 zk0)
def zs58a:=sub (fb Tryz.f124) [0,1,0,1,1,1,1]
theorem zbf9:zk (zy58).env 0 zs58a za6w :=
 zkf (A:=zbf7) zh58 fM trivial (k:=zab zs58a) (by kernel_rfl) rfl rfl (by rintro ⟨x0,x1,x2,x3,x4,x5,x6,x7⟩;kernel_rfl)
def z3t (a0:Stake) (a1:Int): Tr (Stake×(List Int)×Int) :=
 (.bind (zm3 a0) fun v1 =>
 (.ite (!v1)
  (.leaf (a0,[],2))
  (.two (zsq a1 a0.Waits ((a0.Waits.length:Nat):Int) 0 a0 (default:Stake) [] []) (fun v3 =>
   (.leaf (v3.2.2,v3.1,v3.2.1))) (fun v4 =>
   (.leaf ({ v4.1 with Waits:=v4.2.2.1 },v4.2.2.2,0))))))
def zug (a0:Stake) (a1:Int):=(z3t a0 a1).run
def zaaz:SpecT:=zm 0 (LQ.v (Par.ofLP stakeL) (Par.q intP)) 2 [] (u2 z3t) default (LQ.v (Par.ofLP stakeL) (LQ.v zbc (Par.q intP))) 3 []
theorem zaif:ze Tryz.prog 124 (zaaz).spec :=
 sK (A:=⟨[([0,1,0,1,1,1,1],za6w)],[],[],zv58,[]⟩) zh58 fM Tryz.func124 (c:=(fb Tryz.f124)) (by kernel_rfl) (Lc:=0) ⟨zbf9,trivial⟩ _ _ 10 _ _ _ _ _ _ [.pubB 4,.pub 5] (by rintro ⟨a0,a1⟩;kernel_rfl)
def zv59:List (List Nat):=[[1,2,3,4,8],[1,2,3,4,8,11],[1,2,3,4,8,11,26],[8,9,10],[1,2,3,4,8,12],[1,2,3,4,8,12,13,14],[1,2,3,4,8,12,13,14,42],[8,9,10],[1,2,3,4,8,12,13,15],[1,2,3,4,8,12,13,15,16],[1,2,3,4,8,12,13,15,16,49,50],[1,2,3,4,8,12,13,15,16,49,50,51],[1,2,3,4,8,12,13,15,16,17,49,50],[1,2,3,4,8,12,13,15,16,18,49,50],[1,2,3,4,8,12,13,15,16,18,49,50,69],[1,2,3,4,8,12,13,15,16,18,19,49,50],[1,2,3,4,8,12,13,15,16,19,49,50],[1,2,3,4,8,12,13,15,16,49,50],[1,2,3,4,8,12,13,15,16,49,50],[4,8,12,13,14,15,16,21],[4,8,12,13,14,15,16,21,100],[8,9,10],[4,8,12,13,16],[4,8,13,16],[8,9,10]]
noncomputable def zy59:EnvT:=⟨Tryz.prog,zw [(81,zg9),(119,z74),(118,zcm),(120,zaap)]⟩
theorem zh59:(zy59).Ok:=zd ⟨zh8,zaf8,zdw,zaib,trivial⟩
def zhq (x0 x1 x2 x3 x4 x5 x6 x7:Int) (x8 x9:Stake) (x10:(List Wait)): Tr ((Int×Int×Int×Int×Int×Int×Int×Int×Stake×Stake×(List Wait))⊕(Int×Int×Int×Stake×Stake×(List Wait))) :=
 (.ite (decide (x7 < x6))
  (.guard ((0:Int)≤x7∧x7 < ((Sl.len (.waits x10):Nat):Int))
  (.ite ((((x10.getD x7.toNat default).V)==x0)&&(decide (((x10.getD x7.toNat default).Height)≥x1)))
   (.bind (zrl ((x10.getD x7.toNat default).Amount) x2) fun v4 =>
   (.leaf (.inl (x0,x1,x2,x3,x4,IntKind.i64.wrap (x5+v4.1),x6,IntKind.i64.wrap (x7+1),x8,x9,x10.set x7.toNat ({ ((x10.getD x7.toNat default):Wait) with Amount:=IntKind.i64.wrap (((x10.getD x7.toNat default).Amount) - v4.1) })))))
   (.leaf (.inl (x0,x1,x2,x3,x4,x5,x6,IntKind.i64.wrap (x7+1),x8,x9,x10)))))
  (.leaf (.inr (x3,x4,x5,x8,x9,x10))))
def zoc (x0 x1 x2 x3 x4 x5 x6 x7:Int) (x8 x9:Stake) (x10:(List Wait)):=zbp (fun s:Int×Int×Int×Int×Int×Int×Int×Int×Stake×Stake×(List Wait)=>(zhq s.1 s.2.1 s.2.2.1 s.2.2.2.1 s.2.2.2.2.1 s.2.2.2.2.2.1 s.2.2.2.2.2.2.1 s.2.2.2.2.2.2.2.1 s.2.2.2.2.2.2.2.2.1 s.2.2.2.2.2.2.2.2.2.1 s.2.2.2.2.2.2.2.2.2.2).run) (x0,x1,x2,x3,x4,x5,x6,x7,x8,x9,x10)
def zbga:Ann:=⟨[],[],[],zv59,[]⟩
def zbgb:=EndD.mk (LQ.v intP (LQ.v intP (LQ.v intP (LQ.kp 0 0 (LQ.kp 1 0 (LQ.seq (LQ.pix1 0 7 6 5 0) (LQ.v intP (LQ.k (LQ.c (.own 2)) (LQ.v intP (LQ.v intP (LQ.v intP (LQ.seq (LP.q stakeL) (LQ.seq (LP.q stakeL) (Par.q zca)))))))))))))) ⟨[1,2,3,4,8,12,13,15,16,49,50],[.nilown 15 127 (.waits [])]⟩ [.cells 48 63,.cells 48 63,.rows 127]
def za17:=EndD.mk (LQ.kp 0 0 (LQ.kp 1 0 (LQ.seq (LQ.pix1 0 7 6 5 0) (LQ.v intP (LQ.k (LQ.c (.own 2)) (LQ.v intP (LQ.seq (LP.q stakeL) (LQ.seq (LP.q stakeL) (Par.q zca))))))))) ⟨[4,8,12,13,15,16],[.nilown 15 127 (.waits [])]⟩ [.cells 48 63,.cells 48 63,.rows 127]
def za6x:St→Option LR:=L1 131 6 0 zbgb (.exit 0) za17 (u11 zhq)
def zs59a:=sub (fb Tryz.f82) [0,1,0,1,1,1,1,1,1,1]
theorem zbgc:zk (zy59).env 0 zs59a za6x :=
 zb2 (A:=zbga) zh59 fM trivial (k:=zab zs59a) (by kernel_rfl) rfl (by rintro ⟨x0,x1,x2,x3,x4,x5,x6,x7,x8,x9,x10⟩;kernel_rfl)
def zxx (a0:Stake) (a1 a2 a3:Int): Tr (Stake×Int×Int) :=
 (.bind (zel a0 0 a1) fun v1 =>
 (.ite (v1 != 0)
  (.leaf (a0,0,v1))
  (.guard ((0:Int)≤a1∧(a1:Int) < 6)
  (.bind (zrl (a0.Validators.Tokens.get a1) a3) fun v2 =>
  (.ite (v2.2 != 0)
   (.leaf (a0,0,v2.2))
   (.bind (zy a0.Waits) fun v3 =>
   (.bind (zoc a1 a2 a3 a1 v2.1 0 ((v3.length:Nat):Int) 0 a0 (default:Stake) v3) fun v5 =>
   (.bind (zzt v5.2.2.2.1.Bank v5.2.1 v5.2.2.1) fun v6 =>
   (.ite (v6.2 != 0)
    (.leaf (v5.2.2.2.1,0,v6.2))
    (.leaf ((⟨v6.1,{ v5.2.2.2.1.Validators with Tokens:=(v5.2.2.2.1.Validators.Tokens.set v5.1 (IntKind.i64.wrap ((v5.2.2.2.1.Validators.Tokens.get v5.1) - v5.2.1))),Lost:=(v5.2.2.2.1.Validators.Lost.set v5.1 (IntKind.i64.wrap ((IntKind.i64.wrap ((v5.2.2.2.1.Validators.Lost.get v5.1)+v5.2.1))+v5.2.2.1))) },v5.2.2.2.1.Shares,v5.2.2.2.2.2,v5.2.2.2.1.Next⟩:Stake),IntKind.i64.wrap (v5.2.1+v5.2.2.1),0)))))))))))
def zia (a0:Stake) (a1 a2 a3:Int):=(zxx a0 a1 a2 a3).run
def zxy:SpecT:=zm 0 (LQ.v (Par.ofLP stakeL) (LQ.v intP (LQ.v intP (Par.q intP)))) 4 [] (u4 zxx) default (LQ.v (Par.ofLP stakeL) (LQ.v intP (Par.q intP))) 3 []
theorem z2f:ze Tryz.prog 82 (zxy).spec :=
 sK (A:=⟨[([0,1,0,1,1,1,1,1,1,1],za6x)],[],[],zv59,[]⟩) zh59 fM Tryz.func82 (c:=(fb Tryz.f82)) (by kernel_rfl) (Lc:=0) ⟨zbgc,trivial⟩ _ _ 6 _ _ _ _ _ _ [.pubB 8] (by rintro ⟨a0,a1,a2,a3⟩;kernel_rfl)
noncomputable def zy60:EnvT:=⟨Tryz.prog,zw [(81,zg9)]⟩
theorem zh60:(zy60).Ok:=zd ⟨zh8,trivial⟩
def z0a (a0:Stake) (a1:Int): Tr (Stake×Int) :=
 (.bind (zel a0 0 a1) fun v1 =>
 (.ite (v1 != 0)
  (.leaf (a0,v1))
  (.guard ((0:Int)≤a1∧(a1:Int) < 6)
  (.ite (a0.Validators.Jailed.get a1)
   (.leaf (a0,14))
   (.guard ((0:Int)≤a1∧(a1:Int) < 6)
   (.leaf ({ a0 with Validators:={ a0.Validators with Jailed:=(a0.Validators.Jailed.set a1 true) } },0)))))))
def zm5 (a0:Stake) (a1:Int):=(z0a a0 a1).run
def z8b:SpecT:=zm 0 (LQ.v (Par.ofLP stakeL) (Par.q intP)) 2 [] (u2 z0a) default (LQ.v (Par.ofLP stakeL) (Par.q intP)) 2 []
theorem zage:ze Tryz.prog 163 (z8b).spec :=
 sK (A:=⟨[],[],[],[[1,2,4],[1,2,4,6],[1,2,4,6,11],[4,5],[1,2,4,18],[4,5],[2,4],[4,5]],[]⟩) zh60 fM Tryz.func163 (c:=(fb Tryz.f163)) (by kernel_rfl) (Lc:=0) trivial _ _ 4 _ _ _ _ _ _ [.pubB 4] (by rintro ⟨a0,a1⟩;kernel_rfl)
noncomputable def zy61:EnvT:=⟨Tryz.prog,zw [(81,zg9)]⟩
theorem zh61:(zy61).Ok:=zd ⟨zh8,trivial⟩
def zvf (a0:Stake) (a1:Int): Tr (Stake×Int) :=
 (.bind (zel a0 0 a1) fun v1 =>
 (.ite (v1 != 0)
  (.leaf (a0,v1))
  (.guard ((0:Int)≤a1∧(a1:Int) < 6)
  (.ite (a0.Validators.Dead.get a1)
   (.leaf (a0,15))
   (.ite (!(a0.Validators.Jailed.get a1))
    (.leaf (a0,4))
    (.leaf ({ a0 with Validators:={ a0.Validators with Jailed:=(a0.Validators.Jailed.set a1 false) } },0)))))))
def zsr (a0:Stake) (a1:Int):=(zvf a0 a1).run
def z2g:SpecT:=zm 0 (LQ.v (Par.ofLP stakeL) (Par.q intP)) 2 [] (u2 zvf) default (LQ.v (Par.ofLP stakeL) (Par.q intP)) 2 []
theorem zaa0:ze Tryz.prog 35 (z2g).spec :=
 sK (A:=⟨[],[],[],[[1,2,4],[1,2,4,6],[1,2,4,6,12],[4,5],[2,4,7],[2,4],[2,4,7,21],[4,5],[2,4,7,27],[4,5],[4,5]],[]⟩) zh61 fM Tryz.func35 (c:=(fb Tryz.f35)) (by kernel_rfl) (Lc:=0) trivial _ _ 4 _ _ _ _ _ _ [.pubB 4] (by rintro ⟨a0,a1⟩;kernel_rfl)
noncomputable def zy62:EnvT:=⟨Tryz.prog,zw [(81,zg9)]⟩
theorem zh62:(zy62).Ok:=zd ⟨zh8,trivial⟩
def z0b (a0:Stake) (a1:Int): Tr (Stake×Int) :=
 (.bind (zel a0 0 a1) fun v1 =>
 (.ite (v1 != 0)
  (.leaf (a0,v1))
  (.guard ((0:Int)≤a1∧(a1:Int) < 6)
  (.ite (a0.Validators.Dead.get a1)
   (.leaf (a0,15))
   (.guard ((0:Int)≤a1∧(a1:Int) < 6)
   (.guard ((0:Int)≤a1∧(a1:Int) < 6)
   (.leaf ({ a0 with Validators:={ a0.Validators with Jailed:=(a0.Validators.Jailed.set a1 true),Dead:=(a0.Validators.Dead.set a1 true) } },0))))))))
def zm6 (a0:Stake) (a1:Int):=(z0b a0 a1).run
def z0c:SpecT:=zm 0 (LQ.v (Par.ofLP stakeL) (Par.q intP)) 2 [] (u2 z0b) default (LQ.v (Par.ofLP stakeL) (Par.q intP)) 2 []
theorem z5r:ze Tryz.prog 83 (z0c).spec :=
 sK (A:=⟨[],[],[],[[1,2,4],[1,2,4,6],[1,2,4,6,11],[4,5],[1,2,4,18],[4,5],[2,4],[4,5]],[]⟩) zh62 fM Tryz.func83 (c:=(fb Tryz.f83)) (by kernel_rfl) (Lc:=0) trivial _ _ 4 _ _ _ _ _ _ [.pubB 4] (by rintro ⟨a0,a1⟩;kernel_rfl)
end
