/-
  The functions, each by its tree.
-/
import Derived.Test.YtobfadhgiaphnaaGreatXAbC
import Derived.Test.YtobfadhgiaphnaaGreatXFBank
import Derived.Test.YtobfadhgiaphnaaGreatXFRatio
import Derived.Test.YtobfadhgiaphnaaGreatXFStakeB
import Derived.Test.YtobfadhgiaphnaaGreatXFacts
namespace Go.Proofs.YtobfadhgiaphnaaGreat.Ab
open Go Go.RowKit
open Go.IntKind (i64 u64)
set_option maxRecDepth 100000
set_option linter.unusedVariables false
set_option linter.unusedSimpArgs false
noncomputable section
noncomputable def zbnw:EnvT:=⟨Tryz.prog,zw [(94,z7q)]⟩
theorem zbnx:(zbnw).Ok:=zd ⟨zafg,trivial⟩
def zxi  : Tr (Stake) :=
 (.bind (zwu) fun v1 =>
 (.leaf (⟨v1,(default:Validators),(⟨(⟨0,0,0,0,0,0⟩:(A6 Int)),(⟨0,0,0,0,0,0⟩:(A6 Int)),(⟨0,0,0,0,0,0⟩:(A6 Int)),(⟨0,0,0,0,0,0⟩:(A6 Int))⟩:(A4 (A6 Int))),[],1⟩:Stake)))
def zur  := (zxi ).run
def z4p:SpecT:=zn 0 LQ.nil 0 [] (fun s=>zxi ) default (Par.q (Par.ofLP stakeL)) 1 []
theorem zadg:ze Tryz.prog 49 (z4p).spec :=
 sK (A:=⟨[],[],[],[[0],[0]],[]⟩) zbnx fM Tryz.func49 (c:=(fb Tryz.f49)) (by kernel_rfl) (Lc:=0) trivial _ _ 3 _ _ _ _ _ _ [.pubB 0] (by rintro _;kernel_rfl)
def zus (a0:Stake): Tr (Stake) :=
 (.guard ((0+Sl.len (.waits a0.Waits))*64≤140737488355328)
 (.leaf a0))
def zf1 (a0:Stake):=(zus a0).run
def zoh:SpecT:=zn 0 (Par.q (Par.ofLP stakeL)) 1 [] zus default (Par.q (Par.ofLP stakeL)) 1 []
theorem zr7:ze Tryz.prog 56 (zoh).spec :=
 sK (A:=⟨[],[],[],[[1,2],[1,2],[2]],[]⟩) zhN fM Tryz.func56 (c:=(fb Tryz.f56)) (by kernel_rfl) (Lc:=0) trivial _ _ 5 _ _ _ _ _ _ [.pubB 2] (by rintro a0;kernel_rfl)
def zpw (a0:Stake): Tr (Stake) :=
 (.guard ((0+Sl.len (.waits a0.Waits))*64≤140737488355328)
 (.leaf a0))
def zc4 (a0:Stake):=(zpw a0).run
def zfd:SpecT:=zn 0 (Par.q (Par.ofLP stakeL)) 1 [] zpw default (LQ.map (LQ.seq (LQ.agg (LQ.seq (LP.q bankL) (LQ.seq (LP.q validatorsL) (LQ.seq (LP.q (a4L (a6L (LP.one intP)))) (LQ.k (LQ.c (.own 0)) (Par.q intP)))))) (Par.q zbx)) (fun x=>(⟨x.1.1,x.1.2.1,x.1.2.2.1,x.2,x.1.2.2.2⟩:Stake)) (fun y=>((y.Bank,y.Validators,y.Shares,y.Next),y.Waits)) (fun _=>rfl)) 1 [.rows 127]
theorem zf7:ze Tryz.prog 56 (zfd).spec :=
 sK (A:=⟨[],[],[],[[1,2],[1,2],[2]],[]⟩) zhN fM Tryz.func56 (c:=(fb Tryz.f56)) (by kernel_rfl) (Lc:=0) trivial _ _ 5 _ _ _ _ _ _ [] (by rintro a0;kernel_rfl)
def zbby:List (List Nat):=[[2,3],[2,3,40],[4],[2,3,43,44],[2,3,43,44,45],[2,3,5,43,44],[2,3,43,44,57],[4],[2,3,43,44],[4]]
def zf8 (x0 x1:Int) (x2 x3:Stake): Tr ((Int×Int×Stake×Stake)⊕((Bool)⊕(Unit))) :=
 (.ite (decide (x1 < x0))
  (.guard ((0:Int)≤x1∧x1 < ((Sl.len (.waits x2.Waits):Nat):Int))
  (.guard ((0:Int)≤x1∧x1 < ((Sl.len (.waits x3.Waits):Nat):Int))
  (.ite (!(zato (x2.Waits.getD x1.toNat default) (x3.Waits.getD x1.toNat default)))
   (.leaf (.inr (.inl false)))
   (.leaf (.inl (x0,i64.wrap (x1+1),x2,x3))))))
  (.leaf (.inr (.inr ()))))
def zm3 (x0 x1:Int) (x2 x3:Stake):=zbl (fun s:Int×Int×Stake×Stake=>(zf8 s.1 s.2.1 s.2.2.1 s.2.2.2).run) (x0,x1,x2,x3)
def zbbz:Ann:=⟨[],[],[],zbby,[]⟩
def zbb0:=EndD.mk (LQ.kp 0 0 (LQ.kp 1 0 (LQ.v intP (LQ.v intP (LQ.seq (LP.q stakeL) (LP.q stakeL)))))) ⟨[2,3,43,44],[]⟩ [.cells 48 63,.cells 48 63]
def zaxb:=EndD.mk (Par.q boolP) ⟨[4],[]⟩ []
def zaxc:EndD (Unit):=⟨LQ.nil,⟨[],[]⟩,[]⟩
def za2d:St→Option LR:=L2 59 4 0 zbb0 .ret zaxb (.exit 0) zaxc (u4 zf8)
def zs137a:=sub (fb Tryz.f39) [0,1,0,1,1]
theorem zbb1:zk (zyN).env 0 zs137a za2d :=
 zgs (A:=zbbz) zhN fM trivial (k:=z8 zs137a) (by kernel_rfl) rfl rfl (by rintro ⟨x0,x1,x2,x3⟩;kernel_rfl)
def zut (a0 a1:Stake): Tr (Bool) :=
 (.ite (((((!(zatm a0.Bank a1.Bank))||(!(zatn a0.Validators a1.Validators)))||(!(zaih a0.Shares a1.Shares)))||(a0.Next != a1.Next))||(((a0.Waits.length:Nat):Int) != ((a1.Waits.length:Nat):Int)))
  (.leaf false)
  (.two (zm3 ((a0.Waits.length:Nat):Int) 0 a0 a1) (fun v1 =>
   (.leaf v1)) (fun v2 =>
   (.leaf true))))
def ziv (a0 a1:Stake):=(zut a0 a1).run
def z2k:SpecT:=zn 0 (LQ.v (Par.ofLP stakeL) (Par.q (Par.ofLP stakeL))) 2 [] (u2 zut) default (Par.q boolP) 1 []
theorem zaa8:ze Tryz.prog 39 (z2k).spec :=
 sK (A:=⟨[([0,1,0,1,1],za2d)],[],[],zbby,[]⟩) zhN fM Tryz.func39 (c:=(fb Tryz.f39)) (by kernel_rfl) (Lc:=0) ⟨zbb1,trivial⟩ _ _ 4 _ _ _ _ _ _ [] (by rintro ⟨a0,a1⟩;kernel_rfl)
def zaxd:List (List Nat):=[[1],[1,33],[2],[1,3,4],[1,3,4,35,36],[1,3,4,35,36,37],[1,3,4,5,6,35,36],[1,3,4,5,6,7,35,36],[1,3,4,5,6,7,35,36,41,42],[1,3,4,5,6,7,35,36,41,42,43],[1,3,4,5,6,7,9,35,36,41,42],[1,3,4,5,6,7,9,35,36,41,42,49],[2],[1,3,4,5,6,7,35,36,41,42],[1,3,4,5,6,7,35,36,41,42],[1,3,4,6,35,36,95],[2],[1,3,4,6,35,36],[1,3,4,35,36],[1,3,4,35,36],[1,3,4,10,11],[1,3,4,10,11,106,107,108],[1,3,4,10,11,106,107,108,109],[1,3,4,10,11,13,106,107,108],[1,3,4,10,13,106,107,108,158],[2],[1,3,4,10,11,13,106,107,108],[1,3,4,10,11,106,107,108],[1,3,4,10,11,106,107,108],[2]]
noncomputable def zaxe:EnvT:=⟨Tryz.prog,zw [(143,zww),(144,zabq)]⟩
theorem zaxf:(zaxe).Ok:=zd ⟨z1u,zacv,trivial⟩
def zem (x0 x1 x2 x3:Int) (x4:(A6 zi)) (x5:Int) (x6:(A4 (A6 Int))) (x7:Int) (x8:Stake) (x9:zi): Tr ((Int×Int×Int×Int×(A6 zi)×Int×(A4 (A6 Int))×Int×Stake×zi)⊕((Bool)⊕(Int×Int×Int×(A6 zi)×Int×Stake×zi))) :=
 (.ite (decide (x7 < 4))
  (.guard ((0:Int)≤x7∧(x7:Int) < 4)
  (.guard ((0:Int)≤x2∧(x2:Int) < 6)
  (.bind (zf2 (A6.get ⟨A4.get ⟨x6.x0.x0,x6.x1.x0,x6.x2.x0,x6.x3.x0⟩ x7,A4.get ⟨x6.x0.x1,x6.x1.x1,x6.x2.x1,x6.x3.x1⟩ x7,A4.get ⟨x6.x0.x2,x6.x1.x2,x6.x2.x2,x6.x3.x2⟩ x7,A4.get ⟨x6.x0.x3,x6.x1.x3,x6.x2.x3,x6.x3.x3⟩ x7,A4.get ⟨x6.x0.x4,x6.x1.x4,x6.x2.x4,x6.x3.x4⟩ x7,A4.get ⟨x6.x0.x5,x6.x1.x5,x6.x2.x5,x6.x3.x5⟩ x7⟩ x2)) fun v2 =>
  (.ite (!v2)
   (.leaf (.inr (.inl false)))
   (.guard ((0:Int)≤x2∧(x2:Int) < 6)
   (.leaf (.inl (x0,x1,x2,i64.wrap (x3+(A6.get ⟨A4.get ⟨x6.x0.x0,x6.x1.x0,x6.x2.x0,x6.x3.x0⟩ x7,A4.get ⟨x6.x0.x1,x6.x1.x1,x6.x2.x1,x6.x3.x1⟩ x7,A4.get ⟨x6.x0.x2,x6.x1.x2,x6.x2.x2,x6.x3.x2⟩ x7,A4.get ⟨x6.x0.x3,x6.x1.x3,x6.x2.x3,x6.x3.x3⟩ x7,A4.get ⟨x6.x0.x4,x6.x1.x4,x6.x2.x4,x6.x3.x4⟩ x7,A4.get ⟨x6.x0.x5,x6.x1.x5,x6.x2.x5,x6.x3.x5⟩ x7⟩ x2)),x4,x5,x6,i64.wrap (x7+1),x8,x9))))))))
  (.leaf (.inr (.inr (x0,x1,x3,x4,x5,x8,x9)))))
def zm4 (x0 x1 x2 x3:Int) (x4:(A6 zi)) (x5:Int) (x6:(A4 (A6 Int))) (x7:Int) (x8:Stake) (x9:zi):=zbl (fun s:Int×Int×Int×Int×(A6 zi)×Int×(A4 (A6 Int))×Int×Stake×zi=>(zem s.1 s.2.1 s.2.2.1 s.2.2.2.1 s.2.2.2.2.1 s.2.2.2.2.2.1 s.2.2.2.2.2.2.1 s.2.2.2.2.2.2.2.1 s.2.2.2.2.2.2.2.2.1 s.2.2.2.2.2.2.2.2.2).run) (x0,x1,x2,x3,x4,x5,x6,x7,x8,x9)
def zbb2:Ann:=⟨[],[],[],zaxd,[]⟩
def zbb3:=EndD.mk (LQ.kp 0 0 (LQ.v intP (LQ.v intP (LQ.v intP (LQ.kp 1 0 (LQ.v intP (LQ.seq (Par.q (Par.ofLP (a6L zfa))) (LQ.v intP (LQ.seq (Par.q (Par.ofLP (a4L (a6L (LP.one intP))))) (LQ.v intP (LQ.seq (LP.q stakeL) (LP.q zfa)))))))))))) ⟨[1,3,4,5,6,7,35,36,41,42],[]⟩ [.cells 48 63,.cells 42 5]
def zaxg:=EndD.mk (Par.q boolP) ⟨[2],[]⟩ []
def zaxh:=EndD.mk (LQ.kp 0 0 (LQ.v intP (LQ.v intP (LQ.kp 1 0 (LQ.v intP (LQ.seq (Par.q (Par.ofLP (a6L zfa))) (LQ.v intP (LQ.seq (LP.q stakeL) (LP.q zfa))))))))) ⟨[1,3,4,6,7,35,36],[]⟩ [.cells 48 63,.cells 42 5]
def za2e:St→Option LR:=L2 185 5 0 zbb3 .ret zaxg (.exit 2) zaxh (u10 zem)
def zs138a:=sub (fb Tryz.f96) [0,1,0,1,1,0,0,1,1,0,0,1,0,1,1,1]
theorem zbb4:zk (zaxe).env 0 zs138a za2e :=
 zgs (A:=zbb2) zaxf fM trivial (k:=z8 zs138a) (by kernel_rfl) rfl rfl (by rintro ⟨x0,x1,x2,x3,x4,x5,x6,x7,x8,x9⟩;kernel_rfl)
def zen (x0 x1:Int) (x2:(A6 zi)) (x3:Int) (x4:Stake): Tr ((Int×Int×(A6 zi)×Int×Stake)⊕((Bool)⊕(Int×Int×Stake))) :=
 (.ite (decide (x3 < 6))
  (.guard ((0:Int)≤x3∧(x3:Int) < 6)
  (.two (zm4 x0 x1 x3 0 x2 x3 x4.Shares 0 x4 (⟨A6.get ⟨x2.x0.Tokens,x2.x1.Tokens,x2.x2.Tokens,x2.x3.Tokens,x2.x4.Tokens,x2.x5.Tokens⟩ x3,A6.get ⟨x2.x0.Shares,x2.x1.Shares,x2.x2.Shares,x2.x3.Shares,x2.x4.Shares,x2.x5.Shares⟩ x3,A6.get ⟨x2.x0.Lost,x2.x1.Lost,x2.x2.Lost,x2.x3.Lost,x2.x4.Lost,x2.x5.Lost⟩ x3,A6.get ⟨x2.x0.Jailed,x2.x1.Jailed,x2.x2.Jailed,x2.x3.Jailed,x2.x4.Jailed,x2.x5.Jailed⟩ x3,A6.get ⟨x2.x0.Dead,x2.x1.Dead,x2.x2.Dead,x2.x3.Dead,x2.x4.Dead,x2.x5.Dead⟩ x3⟩:zi)) (fun v3 =>
   (.leaf (.inr (.inl v3)))) (fun v4 =>
   (.bind (zf2 v4.2.2.2.2.2.2.Tokens) fun v5 =>
   (.guard (((!v5)=false→((zf2 v4.2.2.2.2.2.2.Shares).isSome=true)∧True))
   (.guard ((((!v5)||(!((zf2 v4.2.2.2.2.2.2.Shares).getD default)))=false→((zf2 v4.2.2.2.2.2.2.Lost).isSome=true)∧True))
   (.ite ((((((!v5)||(!((zf2 v4.2.2.2.2.2.2.Shares).getD default)))||(!((zf2 v4.2.2.2.2.2.2.Lost).getD default)))||(v4.2.2.1 != v4.2.2.2.2.2.2.Shares))||((v4.2.2.1==0)&&(v4.2.2.2.2.2.2.Tokens != 0)))||(v4.2.2.2.2.2.2.Dead&&(!v4.2.2.2.2.2.2.Jailed)))
    (.leaf (.inr (.inl false)))
    (.leaf (.inl (i64.wrap (v4.1+v4.2.2.2.2.2.2.Tokens),i64.wrap (v4.2.1+v4.2.2.2.2.2.2.Lost),v4.2.2.2.1,i64.wrap (v4.2.2.2.2.1+1),v4.2.2.2.2.2.1))))))))))
  (.leaf (.inr (.inr (x0,x1,(⟨x4.Bank,x4.Validators,x4.Shares,x4.Waits,x4.Next⟩:Stake))))))
def zm5 (x0 x1:Int) (x2:(A6 zi)) (x3:Int) (x4:Stake):=zbl (fun s:Int×Int×(A6 zi)×Int×Stake=>(zen s.1 s.2.1 s.2.2.1 s.2.2.2.1 s.2.2.2.2).run) (x0,x1,x2,x3,x4)
def zbb5:Ann:=⟨[([0,1,0,1,1,0,0,1,1,0,0,1,0,1,1,1],za2e)],[],[],zaxd,[]⟩
def zbb6:=EndD.mk (LQ.kp 0 0 (LQ.v intP (LQ.v intP (LQ.seq (Par.q (Par.ofLP (a6L zfa))) (LQ.v intP (LP.q stakeL)))))) ⟨[1,3,4,35,36],[]⟩ [.cells 48 63]
def zaxi:=EndD.mk (Par.q boolP) ⟨[2],[]⟩ []
def zaxj:=EndD.mk (LQ.kp 0 0 (LQ.v intP (LQ.v intP (LP.q stakeL)))) ⟨[1,3,4],[]⟩ [.cells 48 63]
def za2f:St→Option LR:=L2 185 5 0 zbb6 .ret zaxi (.exit 0) zaxj (u5 zen)
def zs138b:=sub (fb Tryz.f96) [0,1,0,1,1,1]
theorem zbb7:zk (zaxe).env 0 zs138b za2f :=
 zgs (A:=zbb5) zaxf fM ⟨zbb4,trivial⟩ (k:=z8 zs138b) (by kernel_rfl) rfl rfl (by rintro ⟨x0,x1,x2,x3,x4⟩;kernel_rfl)
def zf9 (x0 x1 x2 x3:Int) (x4:(List Wait)) (x5 x6:Int) (x7:Stake): Tr ((Int×Int×Int×Int×(List Wait)×Int×Int×Stake)⊕((Bool)⊕(Int×Int×Int×Stake))) :=
 (.ite (decide (x6 < x5))
  (.guard ((0:Int)≤x6∧x6 < ((Sl.len (.waits x4):Nat):Int))
  (.guard ((((((((decide (((x4.getD x6.toNat default).Number)≤x3))||(decide (((x4.getD x6.toNat default).Number)≥x7.Next)))||(decide (((x4.getD x6.toNat default).D) < 0)))||(decide (((x4.getD x6.toNat default).D) > 3)))||(decide (((x4.getD x6.toNat default).V) < 0)))||(decide (((x4.getD x6.toNat default).V) > 5)))=false→((zf2 ((x4.getD x6.toNat default).Amount)).isSome=true)∧True))
  (.ite (((((((((decide (((x4.getD x6.toNat default).Number)≤x3))||(decide (((x4.getD x6.toNat default).Number)≥x7.Next)))||(decide (((x4.getD x6.toNat default).D) < 0)))||(decide (((x4.getD x6.toNat default).D) > 3)))||(decide (((x4.getD x6.toNat default).V) < 0)))||(decide (((x4.getD x6.toNat default).V) > 5)))||(!((zf2 ((x4.getD x6.toNat default).Amount)).getD default)))||(decide (((x4.getD x6.toNat default).Height) < 0)))||(decide (((x4.getD x6.toNat default).Due) < 0)))
   (.leaf (.inr (.inl false)))
   (.leaf (.inl (x0,x1,i64.wrap (x2+((x4.getD x6.toNat default).Amount)),(x4.getD x6.toNat default).Number,x4,x5,i64.wrap (x6+1),x7))))))
  (.leaf (.inr (.inr (x0,x1,x2,x7)))))
def zh2 (x0 x1 x2 x3:Int) (x4:(List Wait)) (x5 x6:Int) (x7:Stake):=zbl (fun s:Int×Int×Int×Int×(List Wait)×Int×Int×Stake=>(zf9 s.1 s.2.1 s.2.2.1 s.2.2.2.1 s.2.2.2.2.1 s.2.2.2.2.2.1 s.2.2.2.2.2.2.1 s.2.2.2.2.2.2.2).run) (x0,x1,x2,x3,x4,x5,x6,x7)
def zbb8:Ann:=⟨[],[],[],zaxd,[]⟩
def zbb9:=EndD.mk (LQ.kp 0 0 (LQ.v intP (LQ.v intP (LQ.v intP (LQ.v intP (LQ.v zbx (LQ.v intP (LQ.v intP (LP.q stakeL))))))))) ⟨[1,3,4,10,11,106,107,108],[.pub 106,.nilsl 106 (.waits [])]⟩ [.cells 48 63]
def zaxk:=EndD.mk (Par.q boolP) ⟨[2],[]⟩ []
def zaxl:=EndD.mk (LQ.kp 0 0 (LQ.v intP (LQ.v intP (LQ.v intP (LP.q stakeL))))) ⟨[1,3,4,10],[]⟩ [.cells 48 63]
def za2g:St→Option LR:=L2 185 5 0 zbb9 .ret zaxk (.exit 4) zaxl (u8 zf9)
def zs138c:=sub (fb Tryz.f96) [0,1,0,1,1,1,1,1]
theorem zbca:zk (zaxe).env 0 zs138c za2g :=
 zgs (A:=zbb8) zaxf fM trivial (k:=z8 zs138c) (by kernel_rfl) rfl rfl (by rintro ⟨x0,x1,x2,x3,x4,x5,x6,x7⟩;kernel_rfl)
def zuu (a0:Stake): Tr (Bool) :=
 (.bind (znu a0.Bank) fun v1 =>
 (.ite ((((!v1)||(decide (a0.Next < 1)))||(decide (a0.Next > 1125899906842624)))||(decide (((a0.Waits.length:Nat):Int) > 60)))
  (.leaf false)
  (.two (zm5 0 0 (⟨(⟨a0.Validators.Tokens.x0,a0.Validators.Shares.x0,a0.Validators.Lost.x0,a0.Validators.Jailed.x0,a0.Validators.Dead.x0⟩:zi),(⟨a0.Validators.Tokens.x1,a0.Validators.Shares.x1,a0.Validators.Lost.x1,a0.Validators.Jailed.x1,a0.Validators.Dead.x1⟩:zi),(⟨a0.Validators.Tokens.x2,a0.Validators.Shares.x2,a0.Validators.Lost.x2,a0.Validators.Jailed.x2,a0.Validators.Dead.x2⟩:zi),(⟨a0.Validators.Tokens.x3,a0.Validators.Shares.x3,a0.Validators.Lost.x3,a0.Validators.Jailed.x3,a0.Validators.Dead.x3⟩:zi),(⟨a0.Validators.Tokens.x4,a0.Validators.Shares.x4,a0.Validators.Lost.x4,a0.Validators.Jailed.x4,a0.Validators.Dead.x4⟩:zi),(⟨a0.Validators.Tokens.x5,a0.Validators.Shares.x5,a0.Validators.Lost.x5,a0.Validators.Jailed.x5,a0.Validators.Dead.x5⟩:zi)⟩:(A6 zi)) 0 a0) (fun v6 =>
   (.leaf v6)) (fun v7 =>
   (.two (zh2 v7.1 v7.2.1 0 0 v7.2.2.Waits ((v7.2.2.Waits.length:Nat):Int) 0 v7.2.2) (fun v8 =>
    (.leaf v8)) (fun v9 =>
    (.leaf (((v9.1==v9.2.2.2.Bank.Bonded)&&(v9.2.2.1==v9.2.2.2.Bank.Waiting))&&(v9.2.1==v9.2.2.2.Bank.Burnt)))))))))
def ziw (a0:Stake):=(zuu a0).run
def zoi:SpecT:=zn 0 (Par.q (Par.ofLP stakeL)) 1 [] zuu default (Par.q boolP) 1 []
theorem zr8:ze Tryz.prog 96 (zoi).spec :=
 sK (A:=⟨[([0,1,0,1,1,1],za2f),([0,1,0,1,1,1,1,1],za2g)],[],[],zaxd,[]⟩) zaxf fM Tryz.func96 (c:=(fb Tryz.f96)) (by kernel_rfl) (Lc:=0) ⟨zbb7,zbca,trivial⟩ _ _ 5 _ _ _ _ _ _ [] (by rintro a0;kernel_rfl)
noncomputable def zbny:EnvT:=⟨Tryz.prog,zw [(96,zoi)]⟩
theorem zbnz:(zbny).Ok:=zd ⟨zr8,trivial⟩
def z9h (a0:Stake) (a1 a2:Int): Tr (Int) :=
 (.bind (ziw a0) fun v1 =>
 (.ite (!v1)
  (.leaf 2)
  (.ite ((((decide (a1 < 0))||(decide (a1 > 3)))||(decide (a2 < 0)))||(decide (a2 > 5)))
   (.leaf 4)
   (.leaf 0))))
def zpx (a0:Stake) (a1 a2:Int):=(z9h a0 a1 a2).run
def zyf:SpecT:=zn 0 (LQ.v (Par.ofLP stakeL) (LQ.v intP (Par.q intP))) 3 [] (u3 z9h) default (Par.q intP) 1 []
theorem zzz:ze Tryz.prog 55 (zyf).spec :=
 sK (A:=⟨[],[],[],[[1,2,3],[1,2,9],[6],[23],[6],[6]],[]⟩) zbnz fM Tryz.func55 (c:=(fb Tryz.f55)) (by kernel_rfl) (Lc:=0) trivial _ _ 3 _ _ _ _ _ _ [] (by rintro ⟨a0,a1,a2⟩;kernel_rfl)
noncomputable def zbn0:EnvT:=⟨Tryz.prog,zw [(55,zyf),(99,z1l),(100,zagj),(56,zoh)]⟩
theorem zbn1:(zbn0).Ok:=zd ⟨zzz,z7f,zam4,zr7,trivial⟩
def zxj (a0:Stake) (a1 a2 a3:Int): Tr (Stake×Int) :=
 (.bind (zpx a0 a1 a2) fun v1 =>
 (.ite (v1 != 0)
  (.leaf (a0,v1))
  (.guard ((0:Int)≤a2∧(a2:Int) < 6)
  (.ite (a0.Validators.Dead.get a2)
   (.leaf (a0,15))
   (.ite ((decide (a3 < 1))||(decide (a3 > 1125899906842624)))
    (.leaf (a0,2))
    (.ite ((a0.Validators.Shares.get a2) != 0)
     (.ite ((a0.Validators.Tokens.get a2)==0)
      (.leaf (a0,8))
      (.bind (zs4 a3 (a0.Validators.Shares.get a2) (a0.Validators.Tokens.get a2)) fun v2 =>
      (.ite ((v2.2 != 0)||(decide ((i64.wrap ((a0.Validators.Shares.get a2)+v2.1)) > 1125899906842624)))
       (.leaf (a0,6))
       (.ite (decide (v2.1 < 1))
        (.leaf (a0,8))
        (.bind (zzn a0.Bank a1 a3) fun v3 =>
        (.ite (v3.2 != 0)
         (.leaf (a0,v3.2))
         (.bind (zf1 a0) fun v4 =>
         (.guard ((0:Int)≤a2∧(a2:Int) < 6)
         (.guard ((0:Int)≤a2∧(a2:Int) < 6)
         (.guard ((0:Int)≤a2∧(a2:Int) < 6)
         (.guard ((0:Int)≤a2∧(a2:Int) < 6)
         (.guard ((0:Int)≤a1∧(a1:Int) < 4)
         (.guard ((0:Int)≤a2∧(a2:Int) < 6)
         (.guard ((0:Int)≤a1∧(a1:Int) < 4)
         (.guard ((0:Int)≤a2∧(a2:Int) < 6)
         (.leaf ((⟨v3.1,{ v4.Validators with Tokens:=(v4.Validators.Tokens.set a2 (i64.wrap ((v4.Validators.Tokens.get a2)+a3))),Shares:=(v4.Validators.Shares.set a2 (i64.wrap ((v4.Validators.Shares.get a2)+v2.1))) },(A46.set v4.Shares a1 a2 (i64.wrap ((A46.get v4.Shares a1 a2)+v2.1))),v4.Waits,v4.Next⟩:Stake),0)))))))))))))))))
     (.ite (decide (a3 < 1))
      (.leaf (a0,8))
      (.bind (zzn a0.Bank a1 a3) fun v5 =>
      (.ite (v5.2 != 0)
       (.leaf (a0,v5.2))
       (.bind (zf1 a0) fun v6 =>
       (.guard ((0:Int)≤a2∧(a2:Int) < 6)
       (.guard ((0:Int)≤a2∧(a2:Int) < 6)
       (.guard ((0:Int)≤a2∧(a2:Int) < 6)
       (.guard ((0:Int)≤a2∧(a2:Int) < 6)
       (.guard ((0:Int)≤a1∧(a1:Int) < 4)
       (.guard ((0:Int)≤a2∧(a2:Int) < 6)
       (.guard ((0:Int)≤a1∧(a1:Int) < 4)
       (.guard ((0:Int)≤a2∧(a2:Int) < 6)
       (.leaf ((⟨v5.1,{ v6.Validators with Tokens:=(v6.Validators.Tokens.set a2 (i64.wrap ((v6.Validators.Tokens.get a2)+a3))),Shares:=(v6.Validators.Shares.set a2 (i64.wrap ((v6.Validators.Shares.get a2)+a3))) },(A46.set v6.Shares a1 a2 (i64.wrap ((A46.get v6.Shares a1 a2)+a3))),v6.Waits,v6.Next⟩:Stake),0))))))))))))))))))))
def zuv (a0:Stake) (a1 a2 a3:Int):=(zxj a0 a1 a2 a3).run
def z4q:SpecT:=zn 0 (LQ.v (Par.ofLP stakeL) (LQ.v intP (LQ.v intP (Par.q intP)))) 4 [] (u4 zxj) default (LQ.v (Par.ofLP stakeL) (Par.q intP)) 2 []
theorem zadh:ze Tryz.prog 52 (z4q).spec :=
 sK (A:=⟨[],[],[],[[1,2,3,4,8],[1,2,3,4,8,10],[1,2,3,4,8,10,22],[8,9],[1,2,3,4,8,11],[1,2,3,4,8,11,30],[8,9],[1,2,3,4,8,11,37],[8,9],[1,2,3,4,8,11,12],[1,2,3,4,8,11,12,42],[1,2,3,4,8,11,45],[8,9],[1,2,3,4,8,11],[1,2,3,4,8,11,12,13],[1,2,3,4,8,12,64],[8,9],[1,2,3,4,8,12,67],[8,9],[1,2,3,4,8,12,14,15],[1,2,3,4,8,12,14,15,78],[8,9],[1,2,3,8,12,14,16],[1,2,3,8,12,16],[1,2,8,12,16],[1,2,8,12,16],[8,16],[8,9]],[]⟩) zbn1 fM Tryz.func52 (c:=(fb Tryz.f52)) (by kernel_rfl) (Lc:=0) trivial _ _ 7 _ _ _ _ _ _ [.pubB 8] (by rintro ⟨a0,a1,a2,a3⟩;kernel_rfl)
def zbcb:List (List Nat):=[[0,2],[0,2,3],[0,2,3,4],[0,2,3,4,9],[0,2,3,4],[0,2,3,4,25],[0,2,3,4],[2]]
def zq4 (x0:(List Power)) (x1:Int) (x2 x3:(A6 Int)): Tr (((List Power)×Int×(A6 Int)×(A6 Int))⊕((A6 Int)×(A6 Int))) :=
 (.ite (decide (x1≥0))
  (.guard ((0:Int)≤x1∧x1 < ((Sl.len (.powers x0):Nat):Int))
  (.guard (((decide (((x0.getD x1.toNat default).V)≥0))=true→((0:Int)≤x1∧x1 < ((Sl.len (.powers x0):Nat):Int))∧True))
  (.ite ((decide (((x0.getD x1.toNat default).V)≥0))&&(decide (((x0.getD x1.toNat default).V) < 6)))
   (.guard ((0:Int)≤x1∧x1 < ((Sl.len (.powers x0):Nat):Int))
   (.guard ((0:Int)≤x1∧x1 < ((Sl.len (.powers x0):Nat):Int))
   (.guard ((0:Int)≤((x0.getD x1.toNat default).V)∧(((x0.getD x1.toNat default).V):Int) < 6)
   (.leaf (.inl (x0,i64.wrap (x1 - 1),x2,(x3.set ((x0.getD x1.toNat default).V) ((x0.getD x1.toNat default).N))))))))
   (.leaf (.inl (x0,i64.wrap (x1 - 1),x2,x3))))))
  (.leaf (.inr (x2,x3))))
def zz0 (x0:(List Power)) (x1:Int) (x2 x3:(A6 Int)):=zbl (fun s:(List Power)×Int×(A6 Int)×(A6 Int)=>(zq4 s.1 s.2.1 s.2.2.1 s.2.2.2).run) (x0,x1,x2,x3)
def zbcc:Ann:=⟨[],[],[],zbcb,[]⟩
def zbcd:=EndD.mk (LQ.v zf (LQ.kp 0 0 (LQ.kp 1 0 (LQ.v intP (LQ.seq (LP.q (a6L (LP.one intP))) (LP.q (a6L (LP.one intP)))))))) ⟨[0,2,3,4],[.pub 0,.nilsl 0 (.powers [])]⟩ [.cells 44 6,.cells 44 6]
def zaxm:=EndD.mk (LQ.kp 0 0 (LQ.kp 1 0 (LQ.seq (LP.q (a6L (LP.one intP))) (LP.q (a6L (LP.one intP)))))) ⟨[2,3],[]⟩ [.cells 44 6,.cells 44 6]
def za2h:St→Option LR:=L1 38 4 0 zbcd (.exit 0) zaxm (u4 zq4)
def zs147a:=sub (fb Tryz.f70) [0,1,0,1,1]
theorem zbce:zk (zyN).env 0 zs147a za2h :=
 zb5 (A:=zbcc) zhN fM trivial (k:=z8 zs147a) (by kernel_rfl) rfl (by rintro ⟨x0,x1,x2,x3⟩;kernel_rfl)
def zadi (a0:(List Power)): Tr ((A6 Int)) :=
 (.bind (zz0 a0 (i64.wrap (((a0.length:Nat):Int) - 1)) (⟨0,0,0,0,0,0⟩:(A6 Int)) (⟨0,0,0,0,0,0⟩:(A6 Int))) fun v1 =>
 (.leaf v1.2))
def zdf (a0:(List Power)):=(zadi a0).run
def z2l:SpecT:=zn 0 (Par.q zf) 1 [] zadi default (Par.q (Par.ofLP (a6L (LP.one intP)))) 1 []
theorem z3j:ze Tryz.prog 70 (z2l).spec :=
 sK (A:=⟨[([0,1,0,1,1],za2h)],[],[],zbcb,[]⟩) zhN fM Tryz.func70 (c:=(fb Tryz.f70)) (by kernel_rfl) (Lc:=0) ⟨zbce,trivial⟩ _ _ 4 _ _ _ _ _ _ [] (by rintro a0;kernel_rfl)
def zbcf:List (List Nat):=[[0,1],[5,6],[5,6,7],[5,6,7,13],[5,6,7,13,14],[5,6,7,8,13],[5,6,7,8,13,22],[5,6,7,13],[5,6,7,13],[4]]
noncomputable def zbcg:EnvT:=⟨Tryz.prog,zw [(70,z2l)]⟩
theorem zbch:(zbcg).Ok:=zd ⟨z3j,trivial⟩
def zoj (x0:Int) (x1 x2:(A6 Int)) (x3:(List Power)): Tr ((Int×(A6 Int)×(A6 Int)×(List Power))⊕((List Power))) :=
 (.ite (decide (x0 < 6))
  (.guard ((0:Int)≤x0∧(x0:Int) < 6)
  (.guard ((0:Int)≤x0∧(x0:Int) < 6)
  (.ite ((x1.get x0) != (x2.get x0))
   (.guard ((0:Int)≤x0∧(x0:Int) < 6)
   (.guard ((Sl.len (.powers x3)+Sl.len (.powers [(⟨x0,x2.get x0⟩:Power)]))*16≤140737488355328)
   (.leaf (.inl (i64.wrap (x0+1),x1,x2,x3++[(⟨x0,x2.get x0⟩:Power)])))))
   (.leaf (.inl (i64.wrap (x0+1),x1,x2,x3))))))
  (.leaf (.inr x3)))
def zxk (x0:Int) (x1 x2:(A6 Int)) (x3:(List Power)):=zbl (fun s:Int×(A6 Int)×(A6 Int)×(List Power)=>(zoj s.1 s.2.1 s.2.2.1 s.2.2.2).run) (x0,x1,x2,x3)
def zbci:Ann:=⟨[],[],[],zbcf,[]⟩
def zbcj:=EndD.mk (LQ.kp 0 0 (LQ.kp 1 0 (LQ.k (LQ.c (.own 2)) (LQ.v intP (LQ.seq (LP.q (a6L (LP.one intP))) (LQ.seq (LP.q (a6L (LP.one intP))) (Par.q zf))))))) ⟨[5,6,7,13],[.nilown 7 154 (.powers [])]⟩ [.cells 44 6,.cells 44 6,.rows 154]
def zaxn:=EndD.mk (LQ.k (LQ.c (.own 0)) (Par.q zf)) ⟨[7],[.nilown 7 154 (.powers [])]⟩ [.rows 154]
def za2i:St→Option LR:=L1 33 7 0 zbcj (.exit 0) zaxn (u4 zoj)
def zs148a:=sub (fb Tryz.f63) [0,1,0,1,1,1]
theorem zbck:zk (zbcg).env 0 zs148a za2i :=
 zb5 (A:=zbci) zbch fM trivial (k:=z8 zs148a) (by kernel_rfl) rfl (by rintro ⟨x0,x1,x2,x3⟩;kernel_rfl)
def z9i (a0 a1:(List Power)): Tr ((List Power)) :=
 (.bind (zdf a0) fun v1 =>
 (.bind (zdf a1) fun v2 =>
 (.bind (zxk 0 v1 v2 []) fun v3 =>
 (.leaf v3))))
def zkc (a0 a1:(List Power)):=(z9i a0 a1).run
def zagm:SpecT:=zn 0 (LQ.v zf (Par.q zf)) 2 [] (u2 z9i) default (Par.q zf) 1 []
theorem zam6:ze Tryz.prog 63 (zagm).spec :=
 sK (A:=⟨[([0,1,0,1,1,1],za2i)],[],[],zbcf,[]⟩) zbch fM Tryz.func63 (c:=(fb Tryz.f63)) (by kernel_rfl) (Lc:=0) ⟨zbck,trivial⟩ _ _ 7 _ _ _ _ _ _ [.pub 4] (by rintro ⟨a0,a1⟩;kernel_rfl)
def zbcl:List (List Nat):=[[0],[0,3],[3,6,7,8],[3,6,7,8,9],[3,5,6,7,8],[3,6,7,8],[3,6,7,8],[2]]
def zl9 (x0:Int) (x1:(List Power)) (x2 x3:Int): Tr ((Int×(List Power)×Int×Int)⊕(Int)) :=
 (.ite (decide (x3 < x2))
  (.guard ((0:Int)≤x3∧x3 < ((Sl.len (.powers x1):Nat):Int))
  (.leaf (.inl (i64.wrap (x0+((x1.getD x3.toNat default).N)),x1,x2,i64.wrap (x3+1)))))
  (.leaf (.inr x0)))
def zuw (x0:Int) (x1:(List Power)) (x2 x3:Int):=zbl (fun s:Int×(List Power)×Int×Int=>(zl9 s.1 s.2.1 s.2.2.1 s.2.2.2).run) (x0,x1,x2,x3)
def zbcm:Ann:=⟨[],[],[],zbcl,[]⟩
def zbcn:=EndD.mk (LQ.v intP (LQ.v zf (LQ.v intP (Par.q intP)))) ⟨[3,6,7,8],[.pub 6,.nilsl 6 (.powers [])]⟩ []
def zaxo:=EndD.mk (Par.q intP) ⟨[3],[]⟩ []
def za2j:St→Option LR:=L1 18 3 0 zbcn (.exit 0) zaxo (u4 zl9)
def zs149a:=sub (fb Tryz.f59) [0,1,0,1,1]
theorem zbco:zk (zyN).env 0 zs149a za2j :=
 zb5 (A:=zbcm) zhN fM trivial (k:=z8 zs149a) (by kernel_rfl) rfl (by rintro ⟨x0,x1,x2,x3⟩;kernel_rfl)
def z50 (a0:(List Power)): Tr (Int) :=
 (.bind (zuw 0 a0 ((a0.length:Nat):Int) 0) fun v1 =>
 (.leaf v1))
def zq5 (a0:(List Power)):=(z50 a0).run
def zadj:SpecT:=zn 0 (Par.q zf) 1 [] z50 default (Par.q intP) 1 []
theorem zaks:ze Tryz.prog 59 (zadj).spec :=
 sK (A:=⟨[([0,1,0,1,1],za2j)],[],[],zbcl,[]⟩) zhN fM Tryz.func59 (c:=(fb Tryz.f59)) (by kernel_rfl) (Lc:=0) ⟨zbco,trivial⟩ _ _ 3 _ _ _ _ _ _ [] (by rintro a0;kernel_rfl)
end
