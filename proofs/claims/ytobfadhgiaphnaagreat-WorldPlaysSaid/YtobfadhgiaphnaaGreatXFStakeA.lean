/-
  The functions, each by its tree.
-/
import Derived.Test.YtobfadhgiaphnaaGreatXAbC
import Derived.Test.YtobfadhgiaphnaaGreatXFBank
import Derived.Test.YtobfadhgiaphnaaGreatXFLine
import Derived.Test.YtobfadhgiaphnaaGreatXFRatio
import Derived.Test.YtobfadhgiaphnaaGreatXFacts
namespace Go.Proofs.YtobfadhgiaphnaaGreat.Ab
open Go Go.RowKit
open Go.IntKind (i64 u64)
set_option maxRecDepth 100000
set_option linter.unusedVariables false
set_option linter.unusedSimpArgs false
noncomputable section
noncomputable def zy52:EnvT:=⟨Tryz.prog,zw [(140,zagg)]⟩
theorem zh52:(zy52).Ok:=zd ⟨zam1,trivial⟩
def z5u  : Tr (Stake) :=
 (.bind (z5i) fun v1 =>
 (.leaf (⟨v1,(default:Validators),(⟨(⟨0,0,0,0,0,0⟩:(A6 Int)),(⟨0,0,0,0,0,0⟩:(A6 Int)),(⟨0,0,0,0,0,0⟩:(A6 Int)),(⟨0,0,0,0,0,0⟩:(A6 Int))⟩:(A4 (A6 Int))),[],1⟩:Stake)))
def z15  := (z5u ).run
def zac6:SpecT:=zn 0 LQ.nil 0 [] (fun s=>z5u ) default (Par.q (Par.ofLP stakeL)) 1 []
theorem zako:ze Tryz.prog 92 (zac6).spec :=
 sK (A:=⟨[],[],[],[[0],[0]],[]⟩) zh52 fM Tryz.func92 (c:=(fb Tryz.f92)) (by kernel_rfl) (Lc:=0) trivial _ _ 3 _ _ _ _ _ _ [.pubB 0] (by rintro _;kernel_rfl)
def zv53:List (List Nat):=[[1],[1,31],[2],[1,3,4,5],[1,3,4,5,33,34],[1,3,4,5,33,34,35],[1,3,4,5,6,7,33,34],[1,3,4,5,6,7,33,34,72],[2],[1,3,4,5,6,7,8,33,34],[1,3,4,5,6,7,8,33,34,73],[1,3,4,5,6,7,8,33,34,73,74],[1,3,4,5,6,7,8,9,33,34,73],[1,3,4,5,6,7,8,9,33,34,73,83],[2],[1,3,4,5,6,7,8,33,34,73],[1,3,4,5,6,7,8,33,34,73],[1,3,4,5,7,33,34,96],[2],[1,3,4,5,33,34],[1,3,4,5,33,34],[1,3,4,5,107,108,109],[1,3,4,5,107,108,109,110],[1,3,4,5,10,11,107,108,109],[1,3,4,5,11,107,108,109,175],[2],[1,3,4,5,107,108,109],[1,3,4,5,107,108,109],[2]]
noncomputable def zy53:EnvT:=⟨Tryz.prog,zw [(147,zms),(148,zne)]⟩
theorem zh53:(zy53).Ok:=zd ⟨znf,zmr,trivial⟩
def zg8 (x0 x1 x2 x3 x4:Int) (x5:(A6 zi)) (x6 x7:Int) (x8:Stake) (x9:zi): Tr ((Int×Int×Int×Int×Int×(A6 zi)×Int×Int×Stake×zi)⊕((Bool)⊕(Int×Int×Int×Int×(A6 zi)×Int×Stake×zi))) :=
 (.ite (decide (x7 < 4))
  (.guard ((0:Int)≤x7∧(x7:Int) < 4)
  (.guard ((0:Int)≤x3∧(x3:Int) < 6)
  (.bind (zao (A46.get x8.Shares x7 x3)) fun v3 =>
  (.ite (!v3)
   (.leaf (.inr (.inl false)))
   (.guard ((0:Int)≤x7∧(x7:Int) < 4)
   (.guard ((0:Int)≤x3∧(x3:Int) < 6)
   (.leaf (.inl (x0,x1,x2,x3,i64.wrap (x4+(A46.get x8.Shares x7 x3)),x5,x6,i64.wrap (x7+1),x8,x9)))))))))
  (.leaf (.inr (.inr (x0,x1,x2,x4,x5,x6,x8,x9)))))
def zry (x0 x1 x2 x3 x4:Int) (x5:(A6 zi)) (x6 x7:Int) (x8:Stake) (x9:zi):=zbl (fun s:Int×Int×Int×Int×Int×(A6 zi)×Int×Int×Stake×zi=>(zg8 s.1 s.2.1 s.2.2.1 s.2.2.2.1 s.2.2.2.2.1 s.2.2.2.2.2.1 s.2.2.2.2.2.2.1 s.2.2.2.2.2.2.2.1 s.2.2.2.2.2.2.2.2.1 s.2.2.2.2.2.2.2.2.2).run) (x0,x1,x2,x3,x4,x5,x6,x7,x8,x9)
def zbks:Ann:=⟨[],[],[],zv53,[]⟩
def zbkt:=EndD.mk (LQ.kp 0 0 (LQ.v intP (LQ.v intP (LQ.v intP (LQ.v intP (LQ.kp 1 0 (LQ.v intP (LQ.seq (Par.q (Par.ofLP (a6L zfa))) (LQ.v intP (LQ.v intP (LQ.seq (LP.q stakeL) (LP.q zfa)))))))))))) ⟨[1,3,4,5,6,7,8,33,34,73],[]⟩ [.cells 48 63,.cells 42 5]
def za5b:=EndD.mk (Par.q boolP) ⟨[2],[]⟩ []
def za5c:=EndD.mk (LQ.kp 0 0 (LQ.v intP (LQ.v intP (LQ.v intP (LQ.kp 1 0 (LQ.v intP (LQ.seq (Par.q (Par.ofLP (a6L zfa))) (LQ.v intP (LQ.seq (LP.q stakeL) (LP.q zfa)))))))))) ⟨[1,3,4,5,7,8,33,34],[]⟩ [.cells 48 63,.cells 42 5]
def zba2:St→Option LR:=L2 200 4 0 zbkt .ret za5b (.exit 2) za5c (u10 zg8)
def zs53a:=sub (fb Tryz.f109) [0,1,0,1,1,1,0,0,1,1,0,0,1,0,1,1,1]
theorem zbku:zk (zy53).env 0 zs53a zba2 :=
 zgs (A:=zbks) zh53 fM trivial (k:=z8 zs53a) (by kernel_rfl) rfl rfl (by rintro ⟨x0,x1,x2,x3,x4,x5,x6,x7,x8,x9⟩;kernel_rfl)
def zg9 (x0 x1 x2:Int) (x3:(A6 zi)) (x4:Int) (x5:Stake): Tr ((Int×Int×Int×(A6 zi)×Int×Stake)⊕((Bool)⊕(Int×Int×Int×Stake))) :=
 (.ite (decide (x4 < 6))
  (.guard ((0:Int)≤x4∧(x4:Int) < 6)
  (.bind (zao (A6.get ⟨x3.x0.Tokens,x3.x1.Tokens,x3.x2.Tokens,x3.x3.Tokens,x3.x4.Tokens,x3.x5.Tokens⟩ x4)) fun v2 =>
  (.guard (((!v2)=false→((zao (A6.get ⟨x3.x0.Shares,x3.x1.Shares,x3.x2.Shares,x3.x3.Shares,x3.x4.Shares,x3.x5.Shares⟩ x4)).isSome=true)∧True))
  (.guard ((((!v2)||(!((zao (A6.get ⟨x3.x0.Shares,x3.x1.Shares,x3.x2.Shares,x3.x3.Shares,x3.x4.Shares,x3.x5.Shares⟩ x4)).getD default)))=false→((zao (A6.get ⟨x3.x0.Lost,x3.x1.Lost,x3.x2.Lost,x3.x3.Lost,x3.x4.Lost,x3.x5.Lost⟩ x4)).isSome=true)∧True))
  (.ite (((((!v2)||(!((zao (A6.get ⟨x3.x0.Shares,x3.x1.Shares,x3.x2.Shares,x3.x3.Shares,x3.x4.Shares,x3.x5.Shares⟩ x4)).getD default)))||(!((zao (A6.get ⟨x3.x0.Lost,x3.x1.Lost,x3.x2.Lost,x3.x3.Lost,x3.x4.Lost,x3.x5.Lost⟩ x4)).getD default)))||(((A6.get ⟨x3.x0.Shares,x3.x1.Shares,x3.x2.Shares,x3.x3.Shares,x3.x4.Shares,x3.x5.Shares⟩ x4)==0)&&(decide ((A6.get ⟨x3.x0.Tokens,x3.x1.Tokens,x3.x2.Tokens,x3.x3.Tokens,x3.x4.Tokens,x3.x5.Tokens⟩ x4) > 0))))||((A6.get ⟨x3.x0.Dead,x3.x1.Dead,x3.x2.Dead,x3.x3.Dead,x3.x4.Dead,x3.x5.Dead⟩ x4)&&(!(A6.get ⟨x3.x0.Jailed,x3.x1.Jailed,x3.x2.Jailed,x3.x3.Jailed,x3.x4.Jailed,x3.x5.Jailed⟩ x4))))
   (.leaf (.inr (.inl false)))
   (.two (zry x0 x1 x2 x4 0 x3 x4 0 x5 (⟨A6.get ⟨x3.x0.Tokens,x3.x1.Tokens,x3.x2.Tokens,x3.x3.Tokens,x3.x4.Tokens,x3.x5.Tokens⟩ x4,A6.get ⟨x3.x0.Shares,x3.x1.Shares,x3.x2.Shares,x3.x3.Shares,x3.x4.Shares,x3.x5.Shares⟩ x4,A6.get ⟨x3.x0.Lost,x3.x1.Lost,x3.x2.Lost,x3.x3.Lost,x3.x4.Lost,x3.x5.Lost⟩ x4,A6.get ⟨x3.x0.Jailed,x3.x1.Jailed,x3.x2.Jailed,x3.x3.Jailed,x3.x4.Jailed,x3.x5.Jailed⟩ x4,A6.get ⟨x3.x0.Dead,x3.x1.Dead,x3.x2.Dead,x3.x3.Dead,x3.x4.Dead,x3.x5.Dead⟩ x4⟩:zi)) (fun v4 =>
    (.leaf (.inr (.inl v4)))) (fun v5 =>
    (.ite (v5.2.2.2.1 != v5.2.2.2.2.2.2.2.Shares)
     (.leaf (.inr (.inl false)))
     (.leaf (.inl (i64.wrap (v5.1+v5.2.2.2.2.2.2.2.Tokens),v5.2.1,i64.wrap (v5.2.2.1+v5.2.2.2.2.2.2.2.Lost),v5.2.2.2.2.1,i64.wrap (v5.2.2.2.2.2.1+1),v5.2.2.2.2.2.2.1)))))))))))
  (.leaf (.inr (.inr (x0,x1,x2,(⟨x5.Bank,x5.Validators,x5.Shares,x5.Waits,x5.Next⟩:Stake))))))
def zrz (x0 x1 x2:Int) (x3:(A6 zi)) (x4:Int) (x5:Stake):=zbl (fun s:Int×Int×Int×(A6 zi)×Int×Stake=>(zg9 s.1 s.2.1 s.2.2.1 s.2.2.2.1 s.2.2.2.2.1 s.2.2.2.2.2).run) (x0,x1,x2,x3,x4,x5)
def zbkv:Ann:=⟨[([0,1,0,1,1,1,0,0,1,1,0,0,1,0,1,1,1],zba2)],[],[],zv53,[]⟩
def zbkw:=EndD.mk (LQ.kp 0 0 (LQ.v intP (LQ.v intP (LQ.v intP (LQ.seq (Par.q (Par.ofLP (a6L zfa))) (LQ.v intP (LP.q stakeL))))))) ⟨[1,3,4,5,33,34],[]⟩ [.cells 48 63]
def za5d:=EndD.mk (Par.q boolP) ⟨[2],[]⟩ []
def za5e:=EndD.mk (LQ.kp 0 0 (LQ.v intP (LQ.v intP (LQ.v intP (LP.q stakeL))))) ⟨[1,3,4,5],[]⟩ [.cells 48 63]
def zba3:St→Option LR:=L2 200 4 0 zbkw .ret za5d (.exit 0) za5e (u6 zg9)
def zs53b:=sub (fb Tryz.f109) [0,1,0,1,1,1]
theorem zbkx:zk (zy53).env 0 zs53b zba3 :=
 zgs (A:=zbkv) zh53 fM ⟨zbku,trivial⟩ (k:=z8 zs53b) (by kernel_rfl) rfl rfl (by rintro ⟨x0,x1,x2,x3,x4,x5⟩;kernel_rfl)
def zj7 (x0 x1 x2:Int) (x3:(List Wait)) (x4 x5:Int) (x6:Stake): Tr ((Int×Int×Int×(List Wait)×Int×Int×Stake)⊕((Bool)⊕(Int×Int×Int×Stake))) :=
 (.ite (decide (x5 < x4))
  (.guard ((0:Int)≤x5∧x5 < ((Sl.len (.waits x3):Nat):Int))
  (.guard (((decide (x5 > 0))=true→(((decide (((x3.getD x5.toNat default).Number) < 1))||(decide (((x3.getD x5.toNat default).Number)≥x6.Next)))=false→((0:Int)≤(i64.wrap (x5 - 1))∧(i64.wrap (x5 - 1)) < ((Sl.len (.waits x6.Waits):Nat):Int))∧True)))
  (.guard (((((((((decide (((x3.getD x5.toNat default).Number) < 1))||(decide (((x3.getD x5.toNat default).Number)≥x6.Next)))||((decide (x5 > 0))&&(decide (((x6.Waits.getD ((i64.wrap (x5 - 1)).toNat) default).Number)≥((x3.getD x5.toNat default).Number)))))||(decide (((x3.getD x5.toNat default).D) < 0)))||(decide (((x3.getD x5.toNat default).D)≥4)))||(decide (((x3.getD x5.toNat default).V) < 0)))||(decide (((x3.getD x5.toNat default).V)≥6)))=false→((zao ((x3.getD x5.toNat default).Amount)).isSome=true)∧True))
  (.ite ((((((((((decide (((x3.getD x5.toNat default).Number) < 1))||(decide (((x3.getD x5.toNat default).Number)≥x6.Next)))||((decide (x5 > 0))&&(decide (((x6.Waits.getD ((i64.wrap (x5 - 1)).toNat) default).Number)≥((x3.getD x5.toNat default).Number)))))||(decide (((x3.getD x5.toNat default).D) < 0)))||(decide (((x3.getD x5.toNat default).D)≥4)))||(decide (((x3.getD x5.toNat default).V) < 0)))||(decide (((x3.getD x5.toNat default).V)≥6)))||(!((zao ((x3.getD x5.toNat default).Amount)).getD default)))||(decide (((x3.getD x5.toNat default).Height) < 0)))||(decide (((x3.getD x5.toNat default).Due) < 0)))
   (.leaf (.inr (.inl false)))
   (.leaf (.inl (x0,i64.wrap (x1+((x3.getD x5.toNat default).Amount)),x2,x3,x4,i64.wrap (x5+1),x6)))))))
  (.leaf (.inr (.inr (x0,x1,x2,x6)))))
def zmj (x0 x1 x2:Int) (x3:(List Wait)) (x4 x5:Int) (x6:Stake):=zbl (fun s:Int×Int×Int×(List Wait)×Int×Int×Stake=>(zj7 s.1 s.2.1 s.2.2.1 s.2.2.2.1 s.2.2.2.2.1 s.2.2.2.2.2.1 s.2.2.2.2.2.2).run) (x0,x1,x2,x3,x4,x5,x6)
def zbky:Ann:=⟨[],[],[],zv53,[]⟩
def zbkz:=EndD.mk (LQ.kp 0 0 (LQ.v intP (LQ.v intP (LQ.v intP (LQ.v zbx (LQ.v intP (LQ.v intP (LP.q stakeL)))))))) ⟨[1,3,4,5,107,108,109],[.pub 107,.nilsl 107 (.waits [])]⟩ [.cells 48 63]
def za5f:=EndD.mk (Par.q boolP) ⟨[2],[]⟩ []
def za5g:=EndD.mk (LQ.kp 0 0 (LQ.v intP (LQ.v intP (LQ.v intP (LP.q stakeL))))) ⟨[1,3,4,5],[]⟩ [.cells 48 63]
def zba4:St→Option LR:=L2 200 4 0 zbkz .ret za5f (.exit 4) za5g (u7 zj7)
def zs53c:=sub (fb Tryz.f109) [0,1,0,1,1,1,1]
theorem zbk0:zk (zy53).env 0 zs53c zba4 :=
 zgs (A:=zbky) zh53 fM trivial (k:=z8 zs53c) (by kernel_rfl) rfl rfl (by rintro ⟨x0,x1,x2,x3,x4,x5,x6⟩;kernel_rfl)
def z16 (a0:Stake): Tr (Bool) :=
 (.bind (zhn a0.Bank) fun v1 =>
 (.ite ((((!v1)||(decide (a0.Next < 1)))||(decide (a0.Next > 1125899906842624)))||(decide (((a0.Waits.length:Nat):Int) > 60)))
  (.leaf false)
  (.two (zrz 0 0 0 (⟨(⟨a0.Validators.Tokens.x0,a0.Validators.Shares.x0,a0.Validators.Lost.x0,a0.Validators.Jailed.x0,a0.Validators.Dead.x0⟩:zi),(⟨a0.Validators.Tokens.x1,a0.Validators.Shares.x1,a0.Validators.Lost.x1,a0.Validators.Jailed.x1,a0.Validators.Dead.x1⟩:zi),(⟨a0.Validators.Tokens.x2,a0.Validators.Shares.x2,a0.Validators.Lost.x2,a0.Validators.Jailed.x2,a0.Validators.Dead.x2⟩:zi),(⟨a0.Validators.Tokens.x3,a0.Validators.Shares.x3,a0.Validators.Lost.x3,a0.Validators.Jailed.x3,a0.Validators.Dead.x3⟩:zi),(⟨a0.Validators.Tokens.x4,a0.Validators.Shares.x4,a0.Validators.Lost.x4,a0.Validators.Jailed.x4,a0.Validators.Dead.x4⟩:zi),(⟨a0.Validators.Tokens.x5,a0.Validators.Shares.x5,a0.Validators.Lost.x5,a0.Validators.Jailed.x5,a0.Validators.Dead.x5⟩:zi)⟩:(A6 zi)) 0 a0) (fun v6 =>
   (.leaf v6)) (fun v7 =>
   (.two (zmj v7.1 v7.2.1 v7.2.2.1 v7.2.2.2.Waits ((v7.2.2.2.Waits.length:Nat):Int) 0 v7.2.2.2) (fun v8 =>
    (.leaf v8)) (fun v9 =>
    (.leaf (((v9.1==v9.2.2.2.Bank.Bonded)&&(v9.2.1==v9.2.2.2.Bank.Waiting))&&(v9.2.2.1==v9.2.2.2.Bank.Burnt)))))))))
def zn6 (a0:Stake):=(z16 a0).run
def zv0:SpecT:=zn 0 (Par.q (Par.ofLP stakeL)) 1 [] z16 default (Par.q boolP) 1 []
theorem zzu:ze Tryz.prog 109 (zv0).spec :=
 sK (A:=⟨[([0,1,0,1,1,1],zba3),([0,1,0,1,1,1,1],zba4)],[],[],zv53,[]⟩) zh53 fM Tryz.func109 (c:=(fb Tryz.f109)) (by kernel_rfl) (Lc:=0) ⟨zbkx,zbk0,trivial⟩ _ _ 4 _ _ _ _ _ _ [] (by rintro a0;kernel_rfl)
noncomputable def zy54:EnvT:=⟨Tryz.prog,zw [(109,zv0)]⟩
theorem zh54:(zy54).Ok:=zd ⟨zzu,trivial⟩
def zzv (a0:Stake) (a1 a2:Int): Tr (Int) :=
 (.bind (zn6 a0) fun v1 =>
 (.ite (!v1)
  (.leaf 2)
  (.ite ((((decide (a1 < 0))||(decide (a1≥4)))||(decide (a2 < 0)))||(decide (a2≥6)))
   (.leaf 4)
   (.leaf 0))))
def ze8 (a0:Stake) (a1 a2:Int):=(zzv a0 a1 a2).run
def zh1:SpecT:=zn 0 (LQ.v (Par.ofLP stakeL) (LQ.v intP (Par.q intP))) 3 [] (u3 zzv) default (Par.q intP) 1 []
theorem zi2:ze Tryz.prog 81 (zh1).spec :=
 sK (A:=⟨[],[],[],[[1,2,3],[1,2,7],[6],[11],[6],[6]],[]⟩) zh54 fM Tryz.func81 (c:=(fb Tryz.f81)) (by kernel_rfl) (Lc:=0) trivial _ _ 3 _ _ _ _ _ _ [] (by rintro ⟨a0,a1,a2⟩;kernel_rfl)
noncomputable def zy55:EnvT:=⟨Tryz.prog,zw [(81,zh1),(115,zqi),(116,zacw)]⟩
theorem zh55:(zy55).Ok:=zd ⟨zi2,ztv,zakk,trivial⟩
def zr0 (a0:Stake) (a1 a2 a3:Int): Tr (Stake×Int) :=
 (.bind (ze8 a0 a1 a2) fun v1 =>
 (.ite (v1 != 0)
  (.leaf (a0,v1))
  (.guard ((0:Int)≤a2∧(a2:Int) < 6)
  (.ite (a0.Validators.Dead.get a2)
   (.leaf (a0,15))
   (.ite ((decide (a3 < 1))||(decide (a3 > 1125899906842624)))
    (.leaf (a0,2))
    (.ite (decide ((a0.Validators.Shares.get a2) > 0))
     (.ite ((a0.Validators.Tokens.get a2)==0)
      (.leaf (a0,8))
      (.guard ((zai a3 (a0.Validators.Shares.get a2) (a0.Validators.Tokens.get a2)).isSome=true)
      (.ite (((((zai a3 (a0.Validators.Shares.get a2) (a0.Validators.Tokens.get a2)).getD default).2) != 0)||(decide ((((zai a3 (a0.Validators.Shares.get a2) (a0.Validators.Tokens.get a2)).getD default).1) > (i64.wrap (1125899906842624 - (a0.Validators.Shares.get a2))))))
       (.leaf (a0,6))
       (.ite ((((zai a3 (a0.Validators.Shares.get a2) (a0.Validators.Tokens.get a2)).getD default).1)==0)
        (.leaf (a0,8))
        (.bind (zvs a0.Bank a1 a3) fun v2 =>
        (.ite (v2.2 != 0)
         (.leaf (a0,v2.2))
         (.guard ((0:Int)≤a1∧(a1:Int) < 4)
         (.guard ((0:Int)≤a2∧(a2:Int) < 6)
         (.guard ((0:Int)≤a1∧(a1:Int) < 4)
         (.guard ((0:Int)≤a2∧(a2:Int) < 6)
         (.leaf ((⟨v2.1,{ a0.Validators with Tokens:=(a0.Validators.Tokens.set a2 (i64.wrap ((a0.Validators.Tokens.get a2)+a3))),Shares:=(a0.Validators.Shares.set a2 (i64.wrap ((a0.Validators.Shares.get a2)+(((zai a3 (a0.Validators.Shares.get a2) (a0.Validators.Tokens.get a2)).getD default).1)))) },(A46.set a0.Shares a1 a2 (i64.wrap ((A46.get a0.Shares a1 a2)+(((zai a3 (a0.Validators.Shares.get a2) (a0.Validators.Tokens.get a2)).getD default).1)))),a0.Waits,a0.Next⟩:Stake),0))))))))))))
     (.ite (a3==0)
      (.leaf (a0,8))
      (.bind (zvs a0.Bank a1 a3) fun v3 =>
      (.ite (v3.2 != 0)
       (.leaf (a0,v3.2))
       (.guard ((0:Int)≤a1∧(a1:Int) < 4)
       (.guard ((0:Int)≤a2∧(a2:Int) < 6)
       (.guard ((0:Int)≤a1∧(a1:Int) < 4)
       (.guard ((0:Int)≤a2∧(a2:Int) < 6)
       (.leaf ((⟨v3.1,{ a0.Validators with Tokens:=(a0.Validators.Tokens.set a2 (i64.wrap ((a0.Validators.Tokens.get a2)+a3))),Shares:=(a0.Validators.Shares.set a2 (i64.wrap ((a0.Validators.Shares.get a2)+a3))) },(A46.set a0.Shares a1 a2 (i64.wrap ((A46.get a0.Shares a1 a2)+a3))),a0.Waits,a0.Next⟩:Stake),0)))))))))))))))
def zpl (a0:Stake) (a1 a2 a3:Int):=(zr0 a0 a1 a2 a3).run
def z0r:SpecT:=zn 0 (LQ.v (Par.ofLP stakeL) (LQ.v intP (LQ.v intP (Par.q intP)))) 4 [] (u4 zr0) default (LQ.v (Par.ofLP stakeL) (Par.q intP)) 2 []
theorem z9e:ze Tryz.prog 79 (z0r).spec :=
 sK (A:=⟨[],[],[],[[1,2,3,4,8],[1,2,3,4,8,10],[1,2,3,4,8,10,22],[8,9],[1,2,3,4,8,11],[1,2,3,4,8,11,31],[8,9],[1,2,3,4,8,11,38],[8,9],[1,2,3,4,8,11,12],[1,2,3,4,8,11,12,45],[1,2,3,4,8,11,50],[8,9],[1,2,3,4,8,11,13,14],[1,2,3,4,8,11,13,75],[8,9],[1,2,3,4,8,11,12],[1,2,3,4,8,11,12,79],[8,9],[1,2,3,4,8,11,12,15,16],[1,2,3,4,8,11,12,15,16,90],[8,9],[1,2,3,4,8,11,12],[1,2,4,8,12],[4,8],[8,9]],[]⟩) zh55 fM Tryz.func79 (c:=(fb Tryz.f79)) (by kernel_rfl) (Lc:=0) trivial _ _ 5 _ _ _ _ _ _ [.pubB 8] (by rintro ⟨a0,a1,a2,a3⟩;kernel_rfl)
noncomputable def zy56:EnvT:=⟨Tryz.prog,zw [(81,zh1),(115,zqi),(117,z7m),(118,zcx)]⟩
theorem zh56:(zy56).Ok:=zd ⟨zi2,ztv,zaff,zeh,trivial⟩
def zn7 (a0:Stake) (a1 a2 a3:Int) (a4:Wait): Tr (Stake×Int) :=
 (.bind (ze8 a0 a1 a2) fun v1 =>
 (.ite (v1 != 0)
  (.leaf (a0,v1))
  (.ite ((((decide (a3 < 1))||(decide (a3 > 1125899906842624)))||(decide (a4.Height < 0)))||(decide (a4.Due < 0)))
   (.leaf (a0,2))
   (.guard ((0:Int)≤a1∧(a1:Int) < 4)
   (.guard ((0:Int)≤a2∧(a2:Int) < 6)
   (.ite (decide ((A46.get a0.Shares a1 a2) < a3))
    (.leaf (a0,7))
    (.ite ((decide (((a0.Waits.length:Nat):Int)≥60))||(decide (a0.Next≥1125899906842624)))
     (.leaf (a0,6))
     (.guard ((0:Int)≤a2∧(a2:Int) < 6)
     (.guard ((zai a3 (a0.Validators.Tokens.get a2) (a0.Validators.Shares.get a2)).isSome=true)
     (.ite (a3==(a0.Validators.Shares.get a2))
      (.ite ((a0.Validators.Tokens.get a2)==0)
       (.leaf (a0,8))
       (.bind (zl0 a0.Bank (a0.Validators.Tokens.get a2)) fun v2 =>
       (.ite (v2.2 != 0)
        (.leaf (a0,v2.2))
        (.guard ((0:Int)≤a1∧(a1:Int) < 4)
        (.guard ((0:Int)≤a2∧(a2:Int) < 6)
        (.guard ((0:Int)≤a1∧(a1:Int) < 4)
        (.guard ((0:Int)≤a2∧(a2:Int) < 6)
        (.guard ((zz a0.Waits).isSome=true)
        (.guard ((Sl.len (.waits ((zz a0.Waits).getD default))+Sl.len (.waits [{ (a4:Wait) with Number:=a0.Next,D:=a1,V:=a2,Amount:=a0.Validators.Tokens.get a2 }]))*64≤140737488355328)
        (.leaf ((⟨v2.1,{ a0.Validators with Tokens:=(a0.Validators.Tokens.set a2 (i64.wrap ((a0.Validators.Tokens.get a2) - (a0.Validators.Tokens.get a2)))),Shares:=(a0.Validators.Shares.set a2 (i64.wrap ((a0.Validators.Shares.get a2) - a3))) },(A46.set a0.Shares a1 a2 (i64.wrap ((A46.get a0.Shares a1 a2) - a3))),((zz a0.Waits).getD default)++[{ (a4:Wait) with Number:=a0.Next,D:=a1,V:=a2,Amount:=a0.Validators.Tokens.get a2 }],i64.wrap (a0.Next+1)⟩:Stake),0)))))))))))
      (.ite ((((zai a3 (a0.Validators.Tokens.get a2) (a0.Validators.Shares.get a2)).getD default).1)==0)
       (.leaf (a0,8))
       (.bind (zl0 a0.Bank (((zai a3 (a0.Validators.Tokens.get a2) (a0.Validators.Shares.get a2)).getD default).1)) fun v3 =>
       (.ite (v3.2 != 0)
        (.leaf (a0,v3.2))
        (.guard ((0:Int)≤a1∧(a1:Int) < 4)
        (.guard ((0:Int)≤a2∧(a2:Int) < 6)
        (.guard ((0:Int)≤a1∧(a1:Int) < 4)
        (.guard ((0:Int)≤a2∧(a2:Int) < 6)
        (.guard ((zz a0.Waits).isSome=true)
        (.guard ((Sl.len (.waits ((zz a0.Waits).getD default))+Sl.len (.waits [{ (a4:Wait) with Number:=a0.Next,D:=a1,V:=a2,Amount:=((zai a3 (a0.Validators.Tokens.get a2) (a0.Validators.Shares.get a2)).getD default).1 }]))*64≤140737488355328)
        (.leaf ((⟨v3.1,{ a0.Validators with Tokens:=(a0.Validators.Tokens.set a2 (i64.wrap ((a0.Validators.Tokens.get a2) - (((zai a3 (a0.Validators.Tokens.get a2) (a0.Validators.Shares.get a2)).getD default).1)))),Shares:=(a0.Validators.Shares.set a2 (i64.wrap ((a0.Validators.Shares.get a2) - a3))) },(A46.set a0.Shares a1 a2 (i64.wrap ((A46.get a0.Shares a1 a2) - a3))),((zz a0.Waits).getD default)++[{ (a4:Wait) with Number:=a0.Next,D:=a1,V:=a2,Amount:=((zai a3 (a0.Validators.Tokens.get a2) (a0.Validators.Shares.get a2)).getD default).1 }],i64.wrap (a0.Next+1)⟩:Stake),0)))))))))))))))))))))
def zmv (a0:Stake) (a1 a2 a3:Int) (a4:Wait):=(zn7 a0 a1 a2 a3 a4).run
def zv1:SpecT:=zn 0 (LQ.v (Par.ofLP stakeL) (LQ.v intP (LQ.v intP (LQ.v intP (Par.q (Par.ofLP zaqm)))))) 5 [] (u5 zn7) default (LQ.v (Par.ofLP stakeL) (Par.q intP)) 2 []
theorem z5v:ze Tryz.prog 80 (zv1).spec :=
 sK (A:=⟨[],[],[],[[1,2,3,5,9,10],[1,2,3,5,9,10,12],[1,2,3,5,9,10,12,23],[10,11],[1,2,3,5,9,10,41],[10,11],[1,2,3,5,9,10,50],[10,11],[1,2,3,5,9,10,60],[10,11],[1,2,3,5,9,10,13],[1,2,3,5,9,10,13,14],[1,2,3,5,9,10,13,14,83],[1,2,3,5,9,10,13,14],[1,2,3,5,9,10,13,14,89],[10,11],[1,2,3,5,9,10,13,14,16,17],[1,2,3,5,9,10,13,14,16,17,99],[10,11],[1,2,3,5,9,10,13,14],[1,2,3,5,9,10,14],[1,2,5,9,10,14],[5,9,10],[5,10],[5,10],[10,11]],[]⟩) zh56 fM Tryz.func80 (c:=(fb Tryz.f80)) (by kernel_rfl) (Lc:=0) trivial _ _ 9 _ _ _ _ _ _ [.pubB 10] (by rintro ⟨a0,a1,a2,a3,a4⟩;kernel_rfl)
def zv57:List (List Nat):=[[1,2,3,6],[1,2,3,6,13],[6],[1,2,3,6],[1,2,3,6,21,22],[1,2,3,6,21,22,23],[1,2,3,6,7,21,22],[1,2,3,6,7,21,22,34],[1,2,3,6,21,22],[1,2,3,6,21,22],[6]]
noncomputable def zy57:EnvT:=⟨Tryz.prog,zw [(118,zcx)]⟩
theorem zh57:(zy57).Ok:=zd ⟨zeh,trivial⟩
def zf4 (x0 x1 x2 x3:Int) (x4 x5:Stake): Tr ((Int×Int×Int×Int×Stake×Stake)⊕(Stake×Stake)) :=
 (.ite (decide (x3 < x2))
  (.guard ((0:Int)≤x3∧x3 < ((Sl.len (.waits x4.Waits):Nat):Int))
  (.guard ((0:Int)≤x0∧(x0:Int) < 2)
  (.ite (decide ((A2.get ⟨(x4.Waits.getD x3.toNat default).h0,(x4.Waits.getD x3.toNat default).h1⟩ x0)≤x1))
   (.guard ((0:Int)≤x3∧x3 < ((Sl.len (.waits x4.Waits):Nat):Int))
   (.guard ((0:Int)≤x0∧(x0:Int) < 2)
   (.leaf (.inl (x0,x1,x2,i64.wrap (x3+1),{ x4 with Waits:=x4.Waits.set x3.toNat ({ ((x4.Waits.getD x3.toNat default):Wait) with h0:=if x0=0 then 0 else (x4.Waits.getD x3.toNat default).h0,h1:=if x0=1 then 0 else (x4.Waits.getD x3.toNat default).h1 }) },x5)))))
   (.leaf (.inl (x0,x1,x2,i64.wrap (x3+1),x4,x5))))))
  (.leaf (.inr (x4,x5))))
def zmw (x0 x1 x2 x3:Int) (x4 x5:Stake):=zbl (fun s:Int×Int×Int×Int×Stake×Stake=>(zf4 s.1 s.2.1 s.2.2.1 s.2.2.2.1 s.2.2.2.2.1 s.2.2.2.2.2).run) (x0,x1,x2,x3,x4,x5)
def zbk1:Ann:=⟨[],[],[],zv57,[]⟩
def zbk2:=EndD.mk (LQ.map (LQ.v intP (LQ.v intP (LQ.kp 0 0 (LQ.kp 1 0 (LQ.v intP (LQ.v intP (LQ.seq (LP.q bankL) (LQ.seq (LP.q validatorsL) (LQ.seq (LP.q (a4L (a6L (LP.one intP)))) (LQ.k (LQ.c (.own 2)) (LQ.v intP (LQ.seq (LP.q stakeL) (Par.q zbx))))))))))))) (fun x=>(x.1,x.2.1,x.2.2.1,x.2.2.2.1,(⟨(d4 x).1,(d4 x).2.1,(d4 x).2.2.1,(d8 x).2,(d4 x).2.2.2.1⟩:Stake),(d8 x).1)) (fun y=>(y.1,y.2.1,y.2.2.1,y.2.2.2.1,(d4 y).1.Bank,(d4 y).1.Validators,(d4 y).1.Shares,(d4 y).1.Next,(d4 y).2,(d4 y).1.Waits)) (fun _=>rfl)) ⟨[1,2,3,6,21,22],[.nilcell 3 61 127 (.waits [])]⟩ [.cells 48 63,.cells 48 63,.rows 127]
def za5h:=EndD.mk (LQ.map (LQ.kp 0 0 (LQ.kp 1 0 (LQ.seq (LP.q bankL) (LQ.seq (LP.q validatorsL) (LQ.seq (LP.q (a4L (a6L (LP.one intP)))) (LQ.k (LQ.c (.own 2)) (LQ.v intP (LQ.seq (LP.q stakeL) (Par.q zbx))))))))) (fun x=>((⟨x.1,x.2.1,x.2.2.1,(d4 x).2,x.2.2.2.1⟩:Stake),(d4 x).1)) (fun y=>(y.1.Bank,y.1.Validators,y.1.Shares,y.1.Next,y.2,y.1.Waits)) (fun _=>rfl)) ⟨[3,6],[.nilcell 3 61 127 (.waits [])]⟩ [.cells 48 63,.cells 48 63,.rows 127]
def zba5:St→Option LR:=L1 44 5 0 zbk2 (.exit 0) za5h (u6 zf4)
def zs57a:=sub (fb Tryz.f161) [0,1,0,1,1,1]
theorem zbk3:zk (zy57).env 0 zs57a zba5 :=
 zb5 (A:=zbk1) zh57 fM trivial (k:=z8 zs57a) (by kernel_rfl) rfl (by rintro ⟨x0,x1,x2,x3,x4,x5⟩;kernel_rfl)
def zt6 (a0:Stake) (a1 a2:Int): Tr (Stake) :=
 (.ite ((decide (a1 < 0))||(decide (a1≥2)))
  (.leaf a0)
  (.bind (zz a0.Waits) fun v1 =>
  (.bind (zmw a1 a2 ((v1.length:Nat):Int) 0 ({ a0 with Waits:=v1 }) (default:Stake)) fun v2 =>
  (.leaf v2.1))))
def zim (a0:Stake) (a1 a2:Int):=(zt6 a0 a1 a2).run
def zt7:SpecT:=zn 0 (LQ.v (Par.ofLP stakeL) (LQ.v intP (Par.q intP))) 3 [] (u3 zt6) default (Par.q (Par.ofLP stakeL)) 1 []
theorem z0s:ze Tryz.prog 161 (zt7).spec :=
 sK (A:=⟨[([0,1,0,1,1,1],zba5)],[],[],zv57,[]⟩) zh57 fM Tryz.func161 (c:=(fb Tryz.f161)) (by kernel_rfl) (Lc:=0) ⟨zbk3,trivial⟩ _ _ 5 _ _ _ _ _ _ [.pubB 6] (by rintro ⟨a0,a1,a2⟩;kernel_rfl)
def zv58:List (List Nat):=[[1,2,4],[1,2,4,15],[4,5,6],[1,2,4,7],[1,2,4,7,8],[1,2,4,7,8,18,19,20],[1,2,4,7,8,18,19,20,21],[1,2,4,7,8,10,18,19,20],[1,2,4,7,8,10,18,19,20,33],[1,2,4,7,8,18,19,20],[1,2,4,7,8,10,11,12,18,19,20],[1,2,4,7,8,10,11,12,18,19,20,49],[4,5,6],[1,2,4,7,8,10,18,19,20],[1,2,4,7,8,18,19,20],[1,2,4,7,8,18,19,20],[2,4,8],[4,5,6]]
noncomputable def zy58:EnvT:=⟨Tryz.prog,zw [(109,zv0),(167,zagi)]⟩
theorem zh58:(zy58).Ok:=zd ⟨zzu,zam3,trivial⟩
def zl4 (x0:Int) (x1:(List Wait)) (x2 x3:Int) (x4 x5:Stake) (x6:(List Wait)) (x7:(List Int)): Tr ((Int×(List Wait)×Int×Int×Stake×Stake×(List Wait)×(List Int))⊕(((List Int)×Int×Stake)⊕(Stake×Stake×(List Wait)×(List Int)))) :=
 (.ite (decide (x3 < x2))
  (.guard ((0:Int)≤x3∧x3 < ((Sl.len (.waits x1):Nat):Int))
  (.ite ((decide (((x1.getD x3.toNat default).Due) > x0))||(!((((x1.getD x3.toNat default).h0)==0)&&((((x1.getD x3.toNat default).h1)==0)&&true))))
   (.guard ((Sl.len (.waits x6)+Sl.len (.waits [(x1.getD x3.toNat default)]))*64≤140737488355328)
   (.leaf (.inl (x0,x1,x2,i64.wrap (x3+1),x4,x5,x6++[(x1.getD x3.toNat default)],x7))))
   (.bind (z5n x4.Bank ((x1.getD x3.toNat default).D) ((x1.getD x3.toNat default).Amount)) fun v2 =>
   (.ite (v2.2 != 0)
    (.leaf (.inr (.inl ([],v2.2,x4))))
    (.guard ((Sl.len (.ints x7)+Sl.len (.ints [(x1.getD x3.toNat default).Number]))*8≤140737488355328)
    (.leaf (.inl (x0,x1,x2,i64.wrap (x3+1),{ x4 with Bank:=v2.1 },x5,x6,x7++[(x1.getD x3.toNat default).Number]))))))))
  (.leaf (.inr (.inr (x4,x5,x6,x7)))))
def zt8 (x0:Int) (x1:(List Wait)) (x2 x3:Int) (x4 x5:Stake) (x6:(List Wait)) (x7:(List Int)):=zbl (fun s:Int×(List Wait)×Int×Int×Stake×Stake×(List Wait)×(List Int)=>(zl4 s.1 s.2.1 s.2.2.1 s.2.2.2.1 s.2.2.2.2.1 s.2.2.2.2.2.1 s.2.2.2.2.2.2.1 s.2.2.2.2.2.2.2).run) (x0,x1,x2,x3,x4,x5,x6,x7)
def zbk4:Ann:=⟨[],[],[],zv58,[]⟩
def zbk5:=EndD.mk (LQ.v intP (LQ.kp 0 0 (LQ.kp 1 0 (LQ.k (LQ.c (.own 2)) (LQ.k (LQ.c (.own 3)) (LQ.v zbx (LQ.v intP (LQ.v intP (LQ.seq (LP.q stakeL) (LQ.seq (LP.q stakeL) (LQ.v zbx (Par.q za7)))))))))))) ⟨[1,2,4,7,8,18,19,20],[.nilown 7 127 (.waits []),.nilown 8 3 (.ints []),.pub 18,.nilsl 18 (.waits [])]⟩ [.cells 48 63,.cells 48 63,.rows 127,.rows 3]
def za5i:=EndD.mk (LQ.kp 0 0 (LQ.v za7 (LQ.v intP (LP.q stakeL)))) ⟨[4,5,6],[.pubB 4,.pub 5,.nilsl 5 (.ints [])]⟩ [.cells 48 63]
def za5j:=EndD.mk (LQ.kp 0 0 (LQ.kp 1 0 (LQ.k (LQ.c (.own 2)) (LQ.k (LQ.c (.own 3)) (LQ.seq (LP.q stakeL) (LQ.seq (LP.q stakeL) (LQ.v zbx (Par.q za7)))))))) ⟨[2,4,7,8],[.nilown 7 127 (.waits []),.nilown 8 3 (.ints [])]⟩ [.cells 48 63,.cells 48 63,.rows 127,.rows 3]
def zba6:St→Option LR:=L2 64 10 0 zbk5 .ret za5i (.exit 0) za5j (u8 zl4)
def zs58a:=sub (fb Tryz.f124) [0,1,0,1,1,1,1]
theorem zbk6:zk (zy58).env 0 zs58a zba6 :=
 zgs (A:=zbk4) zh58 fM trivial (k:=z8 zs58a) (by kernel_rfl) rfl rfl (by rintro ⟨x0,x1,x2,x3,x4,x5,x6,x7⟩;kernel_rfl)
def z5w (a0:Stake) (a1:Int): Tr (Stake×(List Int)×Int) :=
 (.bind (zn6 a0) fun v1 =>
 (.ite (!v1)
  (.leaf (a0,[],2))
  (.two (zt8 a1 a0.Waits ((a0.Waits.length:Nat):Int) 0 a0 (default:Stake) [] []) (fun v3 =>
   (.leaf (v3.2.2,v3.1,v3.2.1))) (fun v4 =>
   (.leaf ({ v4.1 with Waits:=v4.2.2.1 },v4.2.2.2,0))))))
def zv2 (a0:Stake) (a1:Int):=(z5w a0 a1).run
def zac7:SpecT:=zn 0 (LQ.v (Par.ofLP stakeL) (Par.q intP)) 2 [] (u2 z5w) default (LQ.v (Par.ofLP stakeL) (LQ.v za7 (Par.q intP))) 3 []
theorem zakp:ze Tryz.prog 124 (zac7).spec :=
 sK (A:=⟨[([0,1,0,1,1,1,1],zba6)],[],[],zv58,[]⟩) zh58 fM Tryz.func124 (c:=(fb Tryz.f124)) (by kernel_rfl) (Lc:=0) ⟨zbk6,trivial⟩ _ _ 10 _ _ _ _ _ _ [.pubB 4,.pub 5] (by rintro ⟨a0,a1⟩;kernel_rfl)
def zv59:List (List Nat):=[[1,2,3,4,8],[1,2,3,4,8,11],[1,2,3,4,8,11,26],[8,9,10],[1,2,3,4,8,12],[1,2,3,4,8,12,13,14],[1,2,3,4,8,12,13,14,42],[8,9,10],[1,2,3,4,8,12,13,15],[1,2,3,4,8,12,13,15,16],[1,2,3,4,8,12,13,15,16,49,50],[1,2,3,4,8,12,13,15,16,49,50,51],[1,2,3,4,8,12,13,15,16,17,49,50],[1,2,3,4,8,12,13,15,16,18,49,50],[1,2,3,4,8,12,13,15,16,18,49,50,69],[1,2,3,4,8,12,13,15,16,18,19,49,50],[1,2,3,4,8,12,13,15,16,19,49,50],[1,2,3,4,8,12,13,15,16,49,50],[1,2,3,4,8,12,13,15,16,49,50],[4,8,12,13,14,15,16,21],[4,8,12,13,14,15,16,21,100],[8,9,10],[4,8,12,13,16],[4,8,13,16],[8,9,10]]
noncomputable def zy59:EnvT:=⟨Tryz.prog,zw [(81,zh1),(119,zaaa),(118,zcx),(120,zacx)]⟩
theorem zh59:(zy59).Ok:=zd ⟨zi2,zaii,zeh,zakl,trivial⟩
def zin (x0 x1 x2 x3 x4 x5 x6 x7:Int) (x8 x9:Stake) (x10:(List Wait)): Tr ((Int×Int×Int×Int×Int×Int×Int×Int×Stake×Stake×(List Wait))⊕(Int×Int×Int×Stake×Stake×(List Wait))) :=
 (.ite (decide (x7 < x6))
  (.guard ((0:Int)≤x7∧x7 < ((Sl.len (.waits x10):Nat):Int))
  (.ite ((((x10.getD x7.toNat default).V)==x0)&&(decide (((x10.getD x7.toNat default).Height)≥x1)))
   (.bind (zs3 ((x10.getD x7.toNat default).Amount) x2) fun v4 =>
   (.leaf (.inl (x0,x1,x2,x3,x4,i64.wrap (x5+v4.1),x6,i64.wrap (x7+1),x8,x9,x10.set x7.toNat ({ ((x10.getD x7.toNat default):Wait) with Amount:=i64.wrap (((x10.getD x7.toNat default).Amount) - v4.1) })))))
   (.leaf (.inl (x0,x1,x2,x3,x4,x5,x6,i64.wrap (x7+1),x8,x9,x10)))))
  (.leaf (.inr (x3,x4,x5,x8,x9,x10))))
def zpm (x0 x1 x2 x3 x4 x5 x6 x7:Int) (x8 x9:Stake) (x10:(List Wait)):=zbl (fun s:Int×Int×Int×Int×Int×Int×Int×Int×Stake×Stake×(List Wait)=>(zin s.1 s.2.1 s.2.2.1 s.2.2.2.1 s.2.2.2.2.1 s.2.2.2.2.2.1 s.2.2.2.2.2.2.1 s.2.2.2.2.2.2.2.1 s.2.2.2.2.2.2.2.2.1 s.2.2.2.2.2.2.2.2.2.1 s.2.2.2.2.2.2.2.2.2.2).run) (x0,x1,x2,x3,x4,x5,x6,x7,x8,x9,x10)
def zbk7:Ann:=⟨[],[],[],zv59,[]⟩
def zbk8:=EndD.mk (LQ.v intP (LQ.v intP (LQ.v intP (LQ.kp 0 0 (LQ.kp 1 0 (LQ.seq (LQ.pix1 0 7 6 5 0) (LQ.v intP (LQ.k (LQ.c (.own 2)) (LQ.v intP (LQ.v intP (LQ.v intP (LQ.seq (LP.q stakeL) (LQ.seq (LP.q stakeL) (Par.q zbx)))))))))))))) ⟨[1,2,3,4,8,12,13,15,16,49,50],[.nilown 15 127 (.waits [])]⟩ [.cells 48 63,.cells 48 63,.rows 127]
def za5k:=EndD.mk (LQ.kp 0 0 (LQ.kp 1 0 (LQ.seq (LQ.pix1 0 7 6 5 0) (LQ.v intP (LQ.k (LQ.c (.own 2)) (LQ.v intP (LQ.seq (LP.q stakeL) (LQ.seq (LP.q stakeL) (Par.q zbx))))))))) ⟨[4,8,12,13,15,16],[.nilown 15 127 (.waits [])]⟩ [.cells 48 63,.cells 48 63,.rows 127]
def zba7:St→Option LR:=L1 131 6 0 zbk8 (.exit 0) za5k (u11 zin)
def zs59a:=sub (fb Tryz.f82) [0,1,0,1,1,1,1,1,1,1]
theorem zbk9:zk (zy59).env 0 zs59a zba7 :=
 zb5 (A:=zbk7) zh59 fM trivial (k:=z8 zs59a) (by kernel_rfl) rfl (by rintro ⟨x0,x1,x2,x3,x4,x5,x6,x7,x8,x9,x10⟩;kernel_rfl)
def zzw (a0:Stake) (a1 a2 a3:Int): Tr (Stake×Int×Int) :=
 (.bind (ze8 a0 0 a1) fun v1 =>
 (.ite (v1 != 0)
  (.leaf (a0,0,v1))
  (.guard ((0:Int)≤a1∧(a1:Int) < 6)
  (.bind (zs3 (a0.Validators.Tokens.get a1) a3) fun v2 =>
  (.ite (v2.2 != 0)
   (.leaf (a0,0,v2.2))
   (.bind (zz a0.Waits) fun v3 =>
   (.bind (zpm a1 a2 a3 a1 v2.1 0 ((v3.length:Nat):Int) 0 a0 (default:Stake) v3) fun v5 =>
   (.bind (z1p v5.2.2.2.1.Bank v5.2.1 v5.2.2.1) fun v6 =>
   (.ite (v6.2 != 0)
    (.leaf (v5.2.2.2.1,0,v6.2))
    (.leaf ((⟨v6.1,{ v5.2.2.2.1.Validators with Tokens:=(v5.2.2.2.1.Validators.Tokens.set v5.1 (i64.wrap ((v5.2.2.2.1.Validators.Tokens.get v5.1) - v5.2.1))),Lost:=(v5.2.2.2.1.Validators.Lost.set v5.1 (i64.wrap ((i64.wrap ((v5.2.2.2.1.Validators.Lost.get v5.1)+v5.2.1))+v5.2.2.1))) },v5.2.2.2.1.Shares,v5.2.2.2.2.2,v5.2.2.2.1.Next⟩:Stake),i64.wrap (v5.2.1+v5.2.2.1),0)))))))))))
def zi3 (a0:Stake) (a1 a2 a3:Int):=(zzw a0 a1 a2 a3).run
def zzx:SpecT:=zn 0 (LQ.v (Par.ofLP stakeL) (LQ.v intP (LQ.v intP (Par.q intP)))) 4 [] (u4 zzw) default (LQ.v (Par.ofLP stakeL) (LQ.v intP (Par.q intP))) 3 []
theorem z4i:ze Tryz.prog 82 (zzx).spec :=
 sK (A:=⟨[([0,1,0,1,1,1,1,1,1,1],zba7)],[],[],zv59,[]⟩) zh59 fM Tryz.func82 (c:=(fb Tryz.f82)) (by kernel_rfl) (Lc:=0) ⟨zbk9,trivial⟩ _ _ 6 _ _ _ _ _ _ [.pubB 8] (by rintro ⟨a0,a1,a2,a3⟩;kernel_rfl)
noncomputable def zy60:EnvT:=⟨Tryz.prog,zw [(81,zh1)]⟩
theorem zh60:(zy60).Ok:=zd ⟨zi2,trivial⟩
def z17 (a0:Stake) (a1:Int): Tr (Stake×Int) :=
 (.bind (ze8 a0 0 a1) fun v1 =>
 (.ite (v1 != 0)
  (.leaf (a0,v1))
  (.guard ((0:Int)≤a1∧(a1:Int) < 6)
  (.ite (a0.Validators.Jailed.get a1)
   (.leaf (a0,14))
   (.guard ((0:Int)≤a1∧(a1:Int) < 6)
   (.leaf ({ a0 with Validators:={ a0.Validators with Jailed:=(a0.Validators.Jailed.set a1 true) } },0)))))))
def zn8 (a0:Stake) (a1:Int):=(z17 a0 a1).run
def zaah:SpecT:=zn 0 (LQ.v (Par.ofLP stakeL) (Par.q intP)) 2 [] (u2 z17) default (LQ.v (Par.ofLP stakeL) (Par.q intP)) 2 []
theorem zaio:ze Tryz.prog 163 (zaah).spec :=
 sK (A:=⟨[],[],[],[[1,2,4],[1,2,4,6],[1,2,4,6,11],[4,5],[1,2,4,18],[4,5],[2,4],[4,5]],[]⟩) zh60 fM Tryz.func163 (c:=(fb Tryz.f163)) (by kernel_rfl) (Lc:=0) trivial _ _ 4 _ _ _ _ _ _ [.pubB 4] (by rintro ⟨a0,a1⟩;kernel_rfl)
noncomputable def zy61:EnvT:=⟨Tryz.prog,zw [(81,zh1)]⟩
theorem zh61:(zy61).Ok:=zd ⟨zi2,trivial⟩
def zxa (a0:Stake) (a1:Int): Tr (Stake×Int) :=
 (.bind (ze8 a0 0 a1) fun v1 =>
 (.ite (v1 != 0)
  (.leaf (a0,v1))
  (.guard ((0:Int)≤a1∧(a1:Int) < 6)
  (.ite (a0.Validators.Dead.get a1)
   (.leaf (a0,15))
   (.ite (!(a0.Validators.Jailed.get a1))
    (.leaf (a0,4))
    (.leaf ({ a0 with Validators:={ a0.Validators with Jailed:=(a0.Validators.Jailed.set a1 false) } },0)))))))
def zt9 (a0:Stake) (a1:Int):=(zxa a0 a1).run
def z4j:SpecT:=zn 0 (LQ.v (Par.ofLP stakeL) (Par.q intP)) 2 [] (u2 zxa) default (LQ.v (Par.ofLP stakeL) (Par.q intP)) 2 []
theorem zac8:ze Tryz.prog 35 (z4j).spec :=
 sK (A:=⟨[],[],[],[[1,2,4],[1,2,4,6],[1,2,4,6,12],[4,5],[2,4,7],[2,4],[2,4,7,21],[4,5],[2,4,7,27],[4,5],[4,5]],[]⟩) zh61 fM Tryz.func35 (c:=(fb Tryz.f35)) (by kernel_rfl) (Lc:=0) trivial _ _ 4 _ _ _ _ _ _ [.pubB 4] (by rintro ⟨a0,a1⟩;kernel_rfl)
noncomputable def zy62:EnvT:=⟨Tryz.prog,zw [(81,zh1)]⟩
theorem zh62:(zy62).Ok:=zd ⟨zi2,trivial⟩
def z18 (a0:Stake) (a1:Int): Tr (Stake×Int) :=
 (.bind (ze8 a0 0 a1) fun v1 =>
 (.ite (v1 != 0)
  (.leaf (a0,v1))
  (.guard ((0:Int)≤a1∧(a1:Int) < 6)
  (.ite (a0.Validators.Dead.get a1)
   (.leaf (a0,15))
   (.guard ((0:Int)≤a1∧(a1:Int) < 6)
   (.guard ((0:Int)≤a1∧(a1:Int) < 6)
   (.leaf ({ a0 with Validators:={ a0.Validators with Jailed:=(a0.Validators.Jailed.set a1 true),Dead:=(a0.Validators.Dead.set a1 true) } },0))))))))
def zn9 (a0:Stake) (a1:Int):=(z18 a0 a1).run
def z19:SpecT:=zn 0 (LQ.v (Par.ofLP stakeL) (Par.q intP)) 2 [] (u2 z18) default (LQ.v (Par.ofLP stakeL) (Par.q intP)) 2 []
theorem z7v:ze Tryz.prog 83 (z19).spec :=
 sK (A:=⟨[],[],[],[[1,2,4],[1,2,4,6],[1,2,4,6,11],[4,5],[1,2,4,18],[4,5],[2,4],[4,5]],[]⟩) zh62 fM Tryz.func83 (c:=(fb Tryz.f83)) (by kernel_rfl) (Lc:=0) trivial _ _ 4 _ _ _ _ _ _ [.pubB 4] (by rintro ⟨a0,a1⟩;kernel_rfl)
end
