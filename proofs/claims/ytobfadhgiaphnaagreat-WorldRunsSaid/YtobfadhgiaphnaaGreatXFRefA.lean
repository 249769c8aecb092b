/-
  The functions, each by its tree.
-/
import Derived.Test.YtobfadhgiaphnaaGreatXAbFun
import Derived.Test.YtobfadhgiaphnaaGreatXAbStructs
import Derived.Test.YtobfadhgiaphnaaGreatXFBank
import Derived.Test.YtobfadhgiaphnaaGreatXFRatio
import Derived.Test.YtobfadhgiaphnaaGreatXFStakeB
import Derived.Test.YtobfadhgiaphnaaGreatXFacts
namespace Go.Proofs.YtobfadhgiaphnaaGreat.Ab
open Go Go.RowKit
set_option maxRecDepth 100000
set_option linter.unusedVariables false
set_option linter.unusedSimpArgs false
noncomputable section
noncomputable def zbiz:EnvT:=⟨Tryz.prog,zw [(94,z5m)]⟩
theorem zbi0:(zbiz).Ok:=zd ⟨zac8,trivial⟩
def zvn  : Tr (Stake) :=
 (.bind (zu1) fun v1 =>
 (.leaf (⟨v1,(default:Validators),(⟨(⟨0,0,0,0,0,0⟩:(A6 Int)),(⟨0,0,0,0,0,0⟩:(A6 Int)),(⟨0,0,0,0,0,0⟩:(A6 Int)),(⟨0,0,0,0,0,0⟩:(A6 Int))⟩:(A4 (A6 Int))),[],1⟩:Stake)))
def zs9  := (zvn ).run
def z2m:SpecT:=zm 0 LQ.nil 0 [] (fun s=>zvn ) default (Par.q (Par.ofLP stakeL)) 1 []
theorem zaa8:ze Tryz.prog 49 (z2m).spec :=
 sK (A:=⟨[],[],[],[[0],[0]],[]⟩) zbi0 fM Tryz.func49 (c:=(fb Tryz.f49)) (by kernel_rfl) (Lc:=0) trivial _ _ 3 _ _ _ _ _ _ [.pubB 0] (by rintro _;kernel_rfl)
def zta (a0:Stake): Tr (Stake) :=
 (.guard ((0+Sl.len (.waits a0.Waits))*64≤140737488355328)
 (.leaf a0))
def ze9 (a0:Stake):=(zta a0).run
def zne:SpecT:=zm 0 (Par.q (Par.ofLP stakeL)) 1 [] zta default (Par.q (Par.ofLP stakeL)) 1 []
theorem zqt:ze Tryz.prog 56 (zne).spec :=
 sK (A:=⟨[],[],[],[[1,2],[1,2],[2]],[]⟩) zhN fM Tryz.func56 (c:=(fb Tryz.f56)) (by kernel_rfl) (Lc:=0) trivial _ _ 5 _ _ _ _ _ _ [.pubB 2] (by rintro a0;kernel_rfl)
def zom (a0:Stake): Tr (Stake) :=
 (.guard ((0+Sl.len (.waits a0.Waits))*64≤140737488355328)
 (.leaf a0))
def zct (a0:Stake):=(zom a0).run
def zep:SpecT:=zm 0 (Par.q (Par.ofLP stakeL)) 1 [] zom default (LQ.map (LQ.seq (LQ.agg (LQ.seq (LP.q bankL) (LQ.seq (LP.q validatorsL) (LQ.seq (LP.q (a4L (a6L (LP.one intP)))) (LQ.k (LQ.c (.own 0)) (Par.q intP)))))) (Par.q zca)) (fun x=>(⟨x.1.1,x.1.2.1,x.1.2.2.1,x.2,x.1.2.2.2⟩:Stake)) (fun y=>((y.Bank,y.Validators,y.Shares,y.Next),y.Waits)) (fun _=>rfl)) 1 [.rows 127]
theorem zff:ze Tryz.prog 56 (zep).spec :=
 sK (A:=⟨[],[],[],[[1,2],[1,2],[2]],[]⟩) zhN fM Tryz.func56 (c:=(fb Tryz.f56)) (by kernel_rfl) (Lc:=0) trivial _ _ 5 _ _ _ _ _ _ [] (by rintro a0;kernel_rfl)
def zauo:List (List Nat):=[[1],[1,33],[2],[1,3,4],[1,3,4,35,36],[1,3,4,35,36,37],[1,3,4,5,6,35,36],[1,3,4,5,6,7,35,36],[1,3,4,5,6,7,35,36,41,42],[1,3,4,5,6,7,35,36,41,42,43],[1,3,4,5,6,7,9,35,36,41,42],[1,3,4,5,6,7,9,35,36,41,42,49],[2],[1,3,4,5,6,7,35,36,41,42],[1,3,4,5,6,7,35,36,41,42],[1,3,4,6,35,36,95],[2],[1,3,4,6,35,36],[1,3,4,35,36],[1,3,4,35,36],[1,3,4,10,11],[1,3,4,10,11,106,107,108],[1,3,4,10,11,106,107,108,109],[1,3,4,10,11,13,106,107,108],[1,3,4,10,13,106,107,108,158],[2],[1,3,4,10,11,13,106,107,108],[1,3,4,10,11,106,107,108],[1,3,4,10,11,106,107,108],[2]]
noncomputable def zaup:EnvT:=⟨Tryz.prog,zw [(143,zu3),(144,z9j)]⟩
theorem zauq:(zaup).Ok:=zd ⟨zzy,zaan,trivial⟩
def zd1 (x0 x1 x2 x3:Int) (x4:(A6 zi)) (x5:Int) (x6:(A4 (A6 Int))) (x7:Int) (x8:Stake) (x9:zi): Tr ((Int×Int×Int×Int×(A6 zi)×Int×(A4 (A6 Int))×Int×Stake×zi)⊕((Bool)⊕(Int×Int×Int×(A6 zi)×Int×Stake×zi))) :=
 (.ite (decide (x7 < 4))
  (.guard ((0:Int)≤x7∧(x7:Int) < 4)
  (.guard ((0:Int)≤x2∧(x2:Int) < 6)
  (.bind (zfa (A6.get ⟨A4.get ⟨x6.x0.x0,x6.x1.x0,x6.x2.x0,x6.x3.x0⟩ x7,A4.get ⟨x6.x0.x1,x6.x1.x1,x6.x2.x1,x6.x3.x1⟩ x7,A4.get ⟨x6.x0.x2,x6.x1.x2,x6.x2.x2,x6.x3.x2⟩ x7,A4.get ⟨x6.x0.x3,x6.x1.x3,x6.x2.x3,x6.x3.x3⟩ x7,A4.get ⟨x6.x0.x4,x6.x1.x4,x6.x2.x4,x6.x3.x4⟩ x7,A4.get ⟨x6.x0.x5,x6.x1.x5,x6.x2.x5,x6.x3.x5⟩ x7⟩ x2)) fun v2 =>
  (.ite (!v2)
   (.leaf (.inr (.inl false)))
   (.guard ((0:Int)≤x2∧(x2:Int) < 6)
   (.leaf (.inl (x0,x1,x2,IntKind.i64.wrap (x3+(A6.get ⟨A4.get ⟨x6.x0.x0,x6.x1.x0,x6.x2.x0,x6.x3.x0⟩ x7,A4.get ⟨x6.x0.x1,x6.x1.x1,x6.x2.x1,x6.x3.x1⟩ x7,A4.get ⟨x6.x0.x2,x6.x1.x2,x6.x2.x2,x6.x3.x2⟩ x7,A4.get ⟨x6.x0.x3,x6.x1.x3,x6.x2.x3,x6.x3.x3⟩ x7,A4.get ⟨x6.x0.x4,x6.x1.x4,x6.x2.x4,x6.x3.x4⟩ x7,A4.get ⟨x6.x0.x5,x6.x1.x5,x6.x2.x5,x6.x3.x5⟩ x7⟩ x2)),x4,x5,x6,IntKind.i64.wrap (x7+1),x8,x9))))))))
  (.leaf (.inr (.inr (x0,x1,x3,x4,x5,x8,x9)))))
def zl0 (x0 x1 x2 x3:Int) (x4:(A6 zi)) (x5:Int) (x6:(A4 (A6 Int))) (x7:Int) (x8:Stake) (x9:zi):=zbp (fun s:Int×Int×Int×Int×(A6 zi)×Int×(A4 (A6 Int))×Int×Stake×zi=>(zd1 s.1 s.2.1 s.2.2.1 s.2.2.2.1 s.2.2.2.2.1 s.2.2.2.2.2.1 s.2.2.2.2.2.2.1 s.2.2.2.2.2.2.2.1 s.2.2.2.2.2.2.2.2.1 s.2.2.2.2.2.2.2.2.2).run) (x0,x1,x2,x3,x4,x5,x6,x7,x8,x9)
def za7p:Ann:=⟨[],[],[],zauo,[]⟩
def za7q:=EndD.mk (LQ.kp 0 0 (LQ.v intP (LQ.v intP (LQ.v intP (LQ.kp 1 0 (LQ.v intP (LQ.seq (Par.q (Par.ofLP (a6L zen))) (LQ.v intP (LQ.seq (Par.q (Par.ofLP (a4L (a6L (LP.one intP))))) (LQ.v intP (LQ.seq (LP.q stakeL) (LP.q zen)))))))))))) ⟨[1,3,4,5,6,7,35,36,41,42],[]⟩ [.cells 48 63,.cells 42 5]
def zaur:=EndD.mk (Par.q boolP) ⟨[2],[]⟩ []
def zaus:=EndD.mk (LQ.kp 0 0 (LQ.v intP (LQ.v intP (LQ.kp 1 0 (LQ.v intP (LQ.seq (Par.q (Par.ofLP (a6L zen))) (LQ.v intP (LQ.seq (LP.q stakeL) (LP.q zen))))))))) ⟨[1,3,4,6,7,35,36],[]⟩ [.cells 48 63,.cells 42 5]
def zay9:St→Option LR:=L2 185 5 0 za7q .ret zaur (.exit 2) zaus (u10 zd1)
def zs138a:=sub (fb Tryz.f96) [0,1,0,1,1,0,0,1,1,0,0,1,0,1,1,1]
theorem za7r:zk (zaup).env 0 zs138a zay9 :=
 zkf (A:=za7p) zauq fM trivial (k:=zab zs138a) (by kernel_rfl) rfl rfl (by rintro ⟨x0,x1,x2,x3,x4,x5,x6,x7,x8,x9⟩;kernel_rfl)
def zd2 (x0 x1:Int) (x2:(A6 zi)) (x3:Int) (x4:Stake): Tr ((Int×Int×(A6 zi)×Int×Stake)⊕((Bool)⊕(Int×Int×Stake))) :=
 (.ite (decide (x3 < 6))
  (.guard ((0:Int)≤x3∧(x3:Int) < 6)
  (.two (zl0 x0 x1 x3 0 x2 x3 x4.Shares 0 x4 (⟨A6.get ⟨x2.x0.Tokens,x2.x1.Tokens,x2.x2.Tokens,x2.x3.Tokens,x2.x4.Tokens,x2.x5.Tokens⟩ x3,A6.get ⟨x2.x0.Shares,x2.x1.Shares,x2.x2.Shares,x2.x3.Shares,x2.x4.Shares,x2.x5.Shares⟩ x3,A6.get ⟨x2.x0.Lost,x2.x1.Lost,x2.x2.Lost,x2.x3.Lost,x2.x4.Lost,x2.x5.Lost⟩ x3,A6.get ⟨x2.x0.Jailed,x2.x1.Jailed,x2.x2.Jailed,x2.x3.Jailed,x2.x4.Jailed,x2.x5.Jailed⟩ x3,A6.get ⟨x2.x0.Dead,x2.x1.Dead,x2.x2.Dead,x2.x3.Dead,x2.x4.Dead,x2.x5.Dead⟩ x3⟩:zi)) (fun v3 =>
   (.leaf (.inr (.inl v3)))) (fun v4 =>
   (.bind (zfa v4.2.2.2.2.2.2.Tokens) fun v5 =>
   (.guard (((!v5)=false→((zfa v4.2.2.2.2.2.2.Shares).isSome=true)∧True))
   (.guard ((((!v5)||(!((zfa v4.2.2.2.2.2.2.Shares).getD default)))=false→((zfa v4.2.2.2.2.2.2.Lost).isSome=true)∧True))
   (.ite ((((((!v5)||(!((zfa v4.2.2.2.2.2.2.Shares).getD default)))||(!((zfa v4.2.2.2.2.2.2.Lost).getD default)))||(v4.2.2.1 != v4.2.2.2.2.2.2.Shares))||((v4.2.2.1==0)&&(v4.2.2.2.2.2.2.Tokens != 0)))||(v4.2.2.2.2.2.2.Dead&&(!v4.2.2.2.2.2.2.Jailed)))
    (.leaf (.inr (.inl false)))
    (.leaf (.inl (IntKind.i64.wrap (v4.1+v4.2.2.2.2.2.2.Tokens),IntKind.i64.wrap (v4.2.1+v4.2.2.2.2.2.2.Lost),v4.2.2.2.1,IntKind.i64.wrap (v4.2.2.2.2.1+1),v4.2.2.2.2.2.1))))))))))
  (.leaf (.inr (.inr (x0,x1,(⟨x4.Bank,x4.Validators,x4.Shares,x4.Waits,x4.Next⟩:Stake))))))
def zl1 (x0 x1:Int) (x2:(A6 zi)) (x3:Int) (x4:Stake):=zbp (fun s:Int×Int×(A6 zi)×Int×Stake=>(zd2 s.1 s.2.1 s.2.2.1 s.2.2.2.1 s.2.2.2.2).run) (x0,x1,x2,x3,x4)
def za7s:Ann:=⟨[([0,1,0,1,1,0,0,1,1,0,0,1,0,1,1,1],zay9)],[],[],zauo,[]⟩
def za7t:=EndD.mk (LQ.kp 0 0 (LQ.v intP (LQ.v intP (LQ.seq (Par.q (Par.ofLP (a6L zen))) (LQ.v intP (LP.q stakeL)))))) ⟨[1,3,4,35,36],[]⟩ [.cells 48 63]
def zaut:=EndD.mk (Par.q boolP) ⟨[2],[]⟩ []
def zauu:=EndD.mk (LQ.kp 0 0 (LQ.v intP (LQ.v intP (LP.q stakeL)))) ⟨[1,3,4],[]⟩ [.cells 48 63]
def zaza:St→Option LR:=L2 185 5 0 za7t .ret zaut (.exit 0) zauu (u5 zd2)
def zs138b:=sub (fb Tryz.f96) [0,1,0,1,1,1]
theorem za7u:zk (zaup).env 0 zs138b zaza :=
 zkf (A:=za7s) zauq fM ⟨za7r,trivial⟩ (k:=zab zs138b) (by kernel_rfl) rfl rfl (by rintro ⟨x0,x1,x2,x3,x4⟩;kernel_rfl)
def zfg (x0 x1 x2 x3:Int) (x4:(List Wait)) (x5 x6:Int) (x7:Stake): Tr ((Int×Int×Int×Int×(List Wait)×Int×Int×Stake)⊕((Bool)⊕(Int×Int×Int×Stake))) :=
 (.ite (decide (x6 < x5))
  (.guard ((0:Int)≤x6∧x6 < ((Sl.len (.waits x4):Nat):Int))
  (.guard ((((((((decide (((x4.getD x6.toNat default).Number)≤x3))||(decide (((x4.getD x6.toNat default).Number)≥x7.Next)))||(decide (((x4.getD x6.toNat default).D) < 0)))||(decide (((x4.getD x6.toNat default).D) > 3)))||(decide (((x4.getD x6.toNat default).V) < 0)))||(decide (((x4.getD x6.toNat default).V) > 5)))=false→((zfa ((x4.getD x6.toNat default).Amount)).isSome=true)∧True))
  (.ite (((((((((decide (((x4.getD x6.toNat default).Number)≤x3))||(decide (((x4.getD x6.toNat default).Number)≥x7.Next)))||(decide (((x4.getD x6.toNat default).D) < 0)))||(decide (((x4.getD x6.toNat default).D) > 3)))||(decide (((x4.getD x6.toNat default).V) < 0)))||(decide (((x4.getD x6.toNat default).V) > 5)))||(!((zfa ((x4.getD x6.toNat default).Amount)).getD default)))||(decide (((x4.getD x6.toNat default).Height) < 0)))||(decide (((x4.getD x6.toNat default).Due) < 0)))
   (.leaf (.inr (.inl false)))
   (.leaf (.inl (x0,x1,IntKind.i64.wrap (x2+((x4.getD x6.toNat default).Amount)),(x4.getD x6.toNat default).Number,x4,x5,IntKind.i64.wrap (x6+1),x7))))))
  (.leaf (.inr (.inr (x0,x1,x2,x7)))))
def zha (x0 x1 x2 x3:Int) (x4:(List Wait)) (x5 x6:Int) (x7:Stake):=zbp (fun s:Int×Int×Int×Int×(List Wait)×Int×Int×Stake=>(zfg s.1 s.2.1 s.2.2.1 s.2.2.2.1 s.2.2.2.2.1 s.2.2.2.2.2.1 s.2.2.2.2.2.2.1 s.2.2.2.2.2.2.2).run) (x0,x1,x2,x3,x4,x5,x6,x7)
def za7v:Ann:=⟨[],[],[],zauo,[]⟩
def za7w:=EndD.mk (LQ.kp 0 0 (LQ.v intP (LQ.v intP (LQ.v intP (LQ.v intP (LQ.v zca (LQ.v intP (LQ.v intP (LP.q stakeL))))))))) ⟨[1,3,4,10,11,106,107,108],[.pub 106,.nilsl 106 (.waits [])]⟩ [.cells 48 63]
def zauv:=EndD.mk (Par.q boolP) ⟨[2],[]⟩ []
def zauw:=EndD.mk (LQ.kp 0 0 (LQ.v intP (LQ.v intP (LQ.v intP (LP.q stakeL))))) ⟨[1,3,4,10],[]⟩ [.cells 48 63]
def zazb:St→Option LR:=L2 185 5 0 za7w .ret zauv (.exit 4) zauw (u8 zfg)
def zs138c:=sub (fb Tryz.f96) [0,1,0,1,1,1,1,1]
theorem za7x:zk (zaup).env 0 zs138c zazb :=
 zkf (A:=za7v) zauq fM trivial (k:=zab zs138c) (by kernel_rfl) rfl rfl (by rintro ⟨x0,x1,x2,x3,x4,x5,x6,x7⟩;kernel_rfl)
def ztb (a0:Stake): Tr (Bool) :=
 (.bind (zmr a0.Bank) fun v1 =>
 (.ite ((((!v1)||(decide (a0.Next < 1)))||(decide (a0.Next > 1125899906842624)))||(decide (((a0.Waits.length:Nat):Int) > 60)))
  (.leaf false)
  (.two (zl1 0 0 (⟨(⟨a0.Validators.Tokens.x0,a0.Validators.Shares.x0,a0.Validators.Lost.x0,a0.Validators.Jailed.x0,a0.Validators.Dead.x0⟩:zi),(⟨a0.Validators.Tokens.x1,a0.Validators.Shares.x1,a0.Validators.Lost.x1,a0.Validators.Jailed.x1,a0.Validators.Dead.x1⟩:zi),(⟨a0.Validators.Tokens.x2,a0.Validators.Shares.x2,a0.Validators.Lost.x2,a0.Validators.Jailed.x2,a0.Validators.Dead.x2⟩:zi),(⟨a0.Validators.Tokens.x3,a0.Validators.Shares.x3,a0.Validators.Lost.x3,a0.Validators.Jailed.x3,a0.Validators.Dead.x3⟩:zi),(⟨a0.Validators.Tokens.x4,a0.Validators.Shares.x4,a0.Validators.Lost.x4,a0.Validators.Jailed.x4,a0.Validators.Dead.x4⟩:zi),(⟨a0.Validators.Tokens.x5,a0.Validators.Shares.x5,a0.Validators.Lost.x5,a0.Validators.Jailed.x5,a0.Validators.Dead.x5⟩:zi)⟩:(A6 zi)) 0 a0) (fun v6 =>
   (.leaf v6)) (fun v7 =>
   (.two (zha v7.1 v7.2.1 0 0 v7.2.2.Waits ((v7.2.2.Waits.length:Nat):Int) 0 v7.2.2) (fun v8 =>
    (.leaf v8)) (fun v9 =>
    (.leaf (((v9.1==v9.2.2.2.Bank.Bonded)&&(v9.2.2.1==v9.2.2.2.Bank.Waiting))&&(v9.2.1==v9.2.2.2.Bank.Burnt)))))))))
def zhx (a0:Stake):=(ztb a0).run
def znf:SpecT:=zm 0 (Par.q (Par.ofLP stakeL)) 1 [] ztb default (Par.q boolP) 1 []
theorem zqu:ze Tryz.prog 96 (znf).spec :=
 sK (A:=⟨[([0,1,0,1,1,1],zaza),([0,1,0,1,1,1,1,1],zazb)],[],[],zauo,[]⟩) zauq fM Tryz.func96 (c:=(fb Tryz.f96)) (by kernel_rfl) (Lc:=0) ⟨za7u,za7x,trivial⟩ _ _ 5 _ _ _ _ _ _ [] (by rintro a0;kernel_rfl)
noncomputable def zbi1:EnvT:=⟨Tryz.prog,zw [(96,znf)]⟩
theorem zbi2:(zbi1).Ok:=zd ⟨zqu,trivial⟩
def z7d (a0:Stake) (a1 a2:Int): Tr (Int) :=
 (.bind (zhx a0) fun v1 =>
 (.ite (!v1)
  (.leaf 2)
  (.ite ((((decide (a1 < 0))||(decide (a1 > 3)))||(decide (a2 < 0)))||(decide (a2 > 5)))
   (.leaf 4)
   (.leaf 0))))
def zon (a0:Stake) (a1 a2:Int):=(z7d a0 a1 a2).run
def zwm:SpecT:=zm 0 (LQ.v (Par.ofLP stakeL) (LQ.v intP (Par.q intP))) 3 [] (u3 z7d) default (Par.q intP) 1 []
theorem zx0:ze Tryz.prog 55 (zwm).spec :=
 sK (A:=⟨[],[],[],[[1,2,3],[1,2,9],[6],[23],[6],[6]],[]⟩) zbi2 fM Tryz.func55 (c:=(fb Tryz.f55)) (by kernel_rfl) (Lc:=0) trivial _ _ 3 _ _ _ _ _ _ [] (by rintro ⟨a0,a1,a2⟩;kernel_rfl)
noncomputable def zbi3:EnvT:=⟨Tryz.prog,zw [(55,zwm),(99,zzp),(100,zaea),(56,zne)]⟩
theorem zbi4:(zbi3).Ok:=zd ⟨zx0,z5b,zakv,zqt,trivial⟩
def zvo (a0:Stake) (a1 a2 a3:Int): Tr (Stake×Int) :=
 (.bind (zon a0 a1 a2) fun v1 =>
 (.ite (v1 != 0)
  (.leaf (a0,v1))
  (.guard ((0:Int)≤a2∧(a2:Int) < 6)
  (.ite (a0.Validators.Dead.get a2)
   (.leaf (a0,15))
   (.ite ((decide (a3 < 1))||(decide (a3 > 1125899906842624)))
    (.leaf (a0,2))
    (.ite ((a0.Validators.Shares.get a2) != 0)
     (.ite ((a0.Validators.Tokens.get a2)==0)
      (.leaf (a0,8))
      (.bind (zrm a3 (a0.Validators.Shares.get a2) (a0.Validators.Tokens.get a2)) fun v2 =>
      (.ite ((v2.2 != 0)||(decide ((IntKind.i64.wrap ((a0.Validators.Shares.get a2)+v2.1)) > 1125899906842624)))
       (.leaf (a0,6))
       (.ite (decide (v2.1 < 1))
        (.leaf (a0,8))
        (.bind (zxo a0.Bank a1 a3) fun v3 =>
        (.ite (v3.2 != 0)
         (.leaf (a0,v3.2))
         (.bind (ze9 a0) fun v4 =>
         (.guard ((0:Int)≤a2∧(a2:Int) < 6)
         (.guard ((0:Int)≤a2∧(a2:Int) < 6)
         (.guard ((0:Int)≤a2∧(a2:Int) < 6)
         (.guard ((0:Int)≤a2∧(a2:Int) < 6)
         (.guard ((0:Int)≤a1∧(a1:Int) < 4)
         (.guard ((0:Int)≤a2∧(a2:Int) < 6)
         (.guard ((0:Int)≤a1∧(a1:Int) < 4)
         (.guard ((0:Int)≤a2∧(a2:Int) < 6)
         (.leaf ((⟨v3.1,{ v4.Validators with Tokens:=(v4.Validators.Tokens.set a2 (IntKind.i64.wrap ((v4.Validators.Tokens.get a2)+a3))),Shares:=(v4.Validators.Shares.set a2 (IntKind.i64.wrap ((v4.Validators.Shares.get a2)+v2.1))) },(A46.set v4.Shares a1 a2 (IntKind.i64.wrap ((A46.get v4.Shares a1 a2)+v2.1))),v4.Waits,v4.Next⟩:Stake),0)))))))))))))))))
     (.ite (decide (a3 < 1))
      (.leaf (a0,8))
      (.bind (zxo a0.Bank a1 a3) fun v5 =>
      (.ite (v5.2 != 0)
       (.leaf (a0,v5.2))
       (.bind (ze9 a0) fun v6 =>
       (.guard ((0:Int)≤a2∧(a2:Int) < 6)
       (.guard ((0:Int)≤a2∧(a2:Int) < 6)
       (.guard ((0:Int)≤a2∧(a2:Int) < 6)
       (.guard ((0:Int)≤a2∧(a2:Int) < 6)
       (.guard ((0:Int)≤a1∧(a1:Int) < 4)
       (.guard ((0:Int)≤a2∧(a2:Int) < 6)
       (.guard ((0:Int)≤a1∧(a1:Int) < 4)
       (.guard ((0:Int)≤a2∧(a2:Int) < 6)
       (.leaf ((⟨v5.1,{ v6.Validators with Tokens:=(v6.Validators.Tokens.set a2 (IntKind.i64.wrap ((v6.Validators.Tokens.get a2)+a3))),Shares:=(v6.Validators.Shares.set a2 (IntKind.i64.wrap ((v6.Validators.Shares.get a2)+a3))) },(A46.set v6.Shares a1 a2 (IntKind.i64.wrap ((A46.get v6.Shares a1 a2)+a3))),v6.Waits,v6.Next⟩:Stake),0))))))))))))))))))))
def ztc (a0:Stake) (a1 a2 a3:Int):=(zvo a0 a1 a2 a3).run
def z2n:SpecT:=zm 0 (LQ.v (Par.ofLP stakeL) (LQ.v intP (LQ.v intP (Par.q intP)))) 4 [] (u4 zvo) default (LQ.v (Par.ofLP stakeL) (Par.q intP)) 2 []
theorem zaa9:ze Tryz.prog 52 (z2n).spec :=
 sK (A:=⟨[],[],[],[[1,2,3,4,8],[1,2,3,4,8,10],[1,2,3,4,8,10,22],[8,9],[1,2,3,4,8,11],[1,2,3,4,8,11,30],[8,9],[1,2,3,4,8,11,37],[8,9],[1,2,3,4,8,11,12],[1,2,3,4,8,11,12,42],[1,2,3,4,8,11,45],[8,9],[1,2,3,4,8,11],[1,2,3,4,8,11,12,13],[1,2,3,4,8,12,64],[8,9],[1,2,3,4,8,12,67],[8,9],[1,2,3,4,8,12,14,15],[1,2,3,4,8,12,14,15,78],[8,9],[1,2,3,8,12,14,16],[1,2,3,8,12,16],[1,2,8,12,16],[1,2,8,12,16],[8,16],[8,9]],[]⟩) zbi4 fM Tryz.func52 (c:=(fb Tryz.f52)) (by kernel_rfl) (Lc:=0) trivial _ _ 7 _ _ _ _ _ _ [.pubB 8] (by rintro ⟨a0,a1,a2,a3⟩;kernel_rfl)
def za7y:List (List Nat):=[[0,2],[0,2,3],[0,2,3,4],[0,2,3,4,9],[0,2,3,4],[0,2,3,4,25],[0,2,3,4],[2]]
def zpt (x0:(List Power)) (x1:Int) (x2 x3:(A6 Int)): Tr (((List Power)×Int×(A6 Int)×(A6 Int))⊕((A6 Int)×(A6 Int))) :=
 (.ite (decide (x1≥0))
  (.guard ((0:Int)≤x1∧x1 < ((Sl.len (.powers x0):Nat):Int))
  (.guard (((decide (((x0.getD x1.toNat default).V)≥0))=true→((0:Int)≤x1∧x1 < ((Sl.len (.powers x0):Nat):Int))∧True))
  (.ite ((decide (((x0.getD x1.toNat default).V)≥0))&&(decide (((x0.getD x1.toNat default).V) < 6)))
   (.guard ((0:Int)≤x1∧x1 < ((Sl.len (.powers x0):Nat):Int))
   (.guard ((0:Int)≤x1∧x1 < ((Sl.len (.powers x0):Nat):Int))
   (.guard ((0:Int)≤((x0.getD x1.toNat default).V)∧(((x0.getD x1.toNat default).V):Int) < 6)
   (.leaf (.inl (x0,IntKind.i64.wrap (x1 - 1),x2,(x3.set ((x0.getD x1.toNat default).V) ((x0.getD x1.toNat default).N))))))))
   (.leaf (.inl (x0,IntKind.i64.wrap (x1 - 1),x2,x3))))))
  (.leaf (.inr (x2,x3))))
def zx1 (x0:(List Power)) (x1:Int) (x2 x3:(A6 Int)):=zbp (fun s:(List Power)×Int×(A6 Int)×(A6 Int)=>(zpt s.1 s.2.1 s.2.2.1 s.2.2.2).run) (x0,x1,x2,x3)
def za7z:Ann:=⟨[],[],[],za7y,[]⟩
def za70:=EndD.mk (LQ.v zg (LQ.kp 0 0 (LQ.kp 1 0 (LQ.v intP (LQ.seq (LP.q (a6L (LP.one intP))) (LP.q (a6L (LP.one intP)))))))) ⟨[0,2,3,4],[.pub 0,.nilsl 0 (.powers [])]⟩ [.cells 44 6,.cells 44 6]
def zaux:=EndD.mk (LQ.kp 0 0 (LQ.kp 1 0 (LQ.seq (LP.q (a6L (LP.one intP))) (LP.q (a6L (LP.one intP)))))) ⟨[2,3],[]⟩ [.cells 44 6,.cells 44 6]
def zazc:St→Option LR:=L1 38 4 0 za70 (.exit 0) zaux (u4 zpt)
def zs147a:=sub (fb Tryz.f70) [0,1,0,1,1]
theorem za71:zk (zyN).env 0 zs147a zazc :=
 zb2 (A:=za7z) zhN fM trivial (k:=zab zs147a) (by kernel_rfl) rfl (by rintro ⟨x0,x1,x2,x3⟩;kernel_rfl)
def zaba (a0:(List Power)): Tr ((A6 Int)) :=
 (.bind (zx1 a0 (IntKind.i64.wrap (((a0.length:Nat):Int) - 1)) (⟨0,0,0,0,0,0⟩:(A6 Int)) (⟨0,0,0,0,0,0⟩:(A6 Int))) fun v1 =>
 (.leaf v1.2))
def zc2 (a0:(List Power)):=(zaba a0).run
def z0n:SpecT:=zm 0 (Par.q zg) 1 [] zaba default (Par.q (Par.ofLP (a6L (LP.one intP)))) 1 []
theorem z1j:ze Tryz.prog 70 (z0n).spec :=
 sK (A:=⟨[([0,1,0,1,1],zazc)],[],[],za7y,[]⟩) zhN fM Tryz.func70 (c:=(fb Tryz.f70)) (by kernel_rfl) (Lc:=0) ⟨za71,trivial⟩ _ _ 4 _ _ _ _ _ _ [] (by rintro a0;kernel_rfl)
def za72:List (List Nat):=[[0,1],[5,6],[5,6,7],[5,6,7,13],[5,6,7,13,14],[5,6,7,8,13],[5,6,7,8,13,22],[5,6,7,13],[5,6,7,13],[4]]
noncomputable def za73:EnvT:=⟨Tryz.prog,zw [(70,z0n)]⟩
theorem za74:(za73).Ok:=zd ⟨z1j,trivial⟩
def zng (x0:Int) (x1 x2:(A6 Int)) (x3:(List Power)): Tr ((Int×(A6 Int)×(A6 Int)×(List Power))⊕((List Power))) :=
 (.ite (decide (x0 < 6))
  (.guard ((0:Int)≤x0∧(x0:Int) < 6)
  (.guard ((0:Int)≤x0∧(x0:Int) < 6)
  (.ite ((x1.get x0) != (x2.get x0))
   (.guard ((0:Int)≤x0∧(x0:Int) < 6)
   (.guard ((Sl.len (.powers x3)+Sl.len (.powers [(⟨x0,x2.get x0⟩:Power)]))*16≤140737488355328)
   (.leaf (.inl (IntKind.i64.wrap (x0+1),x1,x2,x3++[(⟨x0,x2.get x0⟩:Power)])))))
   (.leaf (.inl (IntKind.i64.wrap (x0+1),x1,x2,x3))))))
  (.leaf (.inr x3)))
def zvp (x0:Int) (x1 x2:(A6 Int)) (x3:(List Power)):=zbp (fun s:Int×(A6 Int)×(A6 Int)×(List Power)=>(zng s.1 s.2.1 s.2.2.1 s.2.2.2).run) (x0,x1,x2,x3)
def za75:Ann:=⟨[],[],[],za72,[]⟩
def za76:=EndD.mk (LQ.kp 0 0 (LQ.kp 1 0 (LQ.k (LQ.c (.own 2)) (LQ.v intP (LQ.seq (LP.q (a6L (LP.one intP))) (LQ.seq (LP.q (a6L (LP.one intP))) (Par.q zg))))))) ⟨[5,6,7,13],[.nilown 7 154 (.powers [])]⟩ [.cells 44 6,.cells 44 6,.rows 154]
def zauy:=EndD.mk (LQ.k (LQ.c (.own 0)) (Par.q zg)) ⟨[7],[.nilown 7 154 (.powers [])]⟩ [.rows 154]
def zazd:St→Option LR:=L1 33 7 0 za76 (.exit 0) zauy (u4 zng)
def zs148a:=sub (fb Tryz.f63) [0,1,0,1,1,1]
theorem za77:zk (za73).env 0 zs148a zazd :=
 zb2 (A:=za75) za74 fM trivial (k:=zab zs148a) (by kernel_rfl) rfl (by rintro ⟨x0,x1,x2,x3⟩;kernel_rfl)
def z7e (a0 a1:(List Power)): Tr ((List Power)) :=
 (.bind (zc2 a0) fun v1 =>
 (.bind (zc2 a1) fun v2 =>
 (.bind (zvp 0 v1 v2 []) fun v3 =>
 (.leaf v3))))
def zje (a0 a1:(List Power)):=(z7e a0 a1).run
def zaed:SpecT:=zm 0 (LQ.v zg (Par.q zg)) 2 [] (u2 z7e) default (Par.q zg) 1 []
theorem zakx:ze Tryz.prog 63 (zaed).spec :=
 sK (A:=⟨[([0,1,0,1,1,1],zazd)],[],[],za72,[]⟩) za74 fM Tryz.func63 (c:=(fb Tryz.f63)) (by kernel_rfl) (Lc:=0) ⟨za77,trivial⟩ _ _ 7 _ _ _ _ _ _ [.pub 4] (by rintro ⟨a0,a1⟩;kernel_rfl)
def za78:List (List Nat):=[[0],[0,3],[3,6,7,8],[3,6,7,8,9],[3,5,6,7,8],[3,6,7,8],[3,6,7,8],[2]]
def zk5 (x0:Int) (x1:(List Power)) (x2 x3:Int): Tr ((Int×(List Power)×Int×Int)⊕(Int)) :=
 (.ite (decide (x3 < x2))
  (.guard ((0:Int)≤x3∧x3 < ((Sl.len (.powers x1):Nat):Int))
  (.leaf (.inl (IntKind.i64.wrap (x0+((x1.getD x3.toNat default).N)),x1,x2,IntKind.i64.wrap (x3+1)))))
  (.leaf (.inr x0)))
def ztd (x0:Int) (x1:(List Power)) (x2 x3:Int):=zbp (fun s:Int×(List Power)×Int×Int=>(zk5 s.1 s.2.1 s.2.2.1 s.2.2.2).run) (x0,x1,x2,x3)
def za79:Ann:=⟨[],[],[],za78,[]⟩
def za8b:=EndD.mk (LQ.v intP (LQ.v zg (LQ.v intP (Par.q intP)))) ⟨[3,6,7,8],[.pub 6,.nilsl 6 (.powers [])]⟩ []
def zauz:=EndD.mk (Par.q intP) ⟨[3],[]⟩ []
def zaze:St→Option LR:=L1 18 3 0 za8b (.exit 0) zauz (u4 zk5)
def zs149a:=sub (fb Tryz.f59) [0,1,0,1,1]
theorem za8c:zk (zyN).env 0 zs149a zaze :=
 zb2 (A:=za79) zhN fM trivial (k:=zab zs149a) (by kernel_rfl) rfl (by rintro ⟨x0,x1,x2,x3⟩;kernel_rfl)
def z3x (a0:(List Power)): Tr (Int) :=
 (.bind (ztd 0 a0 ((a0.length:Nat):Int) 0) fun v1 =>
 (.leaf v1))
def zpu (a0:(List Power)):=(z3x a0).run
def zabb:SpecT:=zm 0 (Par.q zg) 1 [] z3x default (Par.q intP) 1 []
theorem zaii:ze Tryz.prog 59 (zabb).spec :=
 sK (A:=⟨[([0,1,0,1,1],zaze)],[],[],za78,[]⟩) zhN fM Tryz.func59 (c:=(fb Tryz.f59)) (by kernel_rfl) (Lc:=0) ⟨za8c,trivial⟩ _ _ 3 _ _ _ _ _ _ [] (by rintro a0;kernel_rfl)
end
