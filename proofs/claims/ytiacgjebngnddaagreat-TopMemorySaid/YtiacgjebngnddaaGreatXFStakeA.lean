/-
  The functions, each by its tree.
-/
import Derived.Test.YtiacgjebngnddaaGreatXAbC
import Derived.Test.YtiacgjebngnddaaGreatXFBank
import Derived.Test.YtiacgjebngnddaaGreatXFLine
import Derived.Test.YtiacgjebngnddaaGreatXFRatio
import Derived.Test.YtiacgjebngnddaaGreatXFacts
namespace Go.Proofs.YtiacgjebngnddaaGreat.Ab
open Go Go.RowKit
open Go.IntKind (i64 u64)
set_option maxRecDepth 100000
set_option linter.unusedVariables false
set_option linter.unusedSimpArgs false
noncomputable section
noncomputable def zy51:EnvT:=⟨Tryz.prog,zad [(86,z5d)],false⟩
theorem zh51:(zy51).Ok:=zf ⟨zabm,trivial⟩
def zw5  : Tr (Stake) :=
 (.bind (zwu) fun v1 =>
 (.leaf (⟨v1,(default:Validators),(⟨(⟨0,0,0,0,0,0⟩:(A6 Int)),(⟨0,0,0,0,0,0⟩:(A6 Int)),(⟨0,0,0,0,0,0⟩:(A6 Int)),(⟨0,0,0,0,0,0⟩:(A6 Int))⟩:(A4 (A6 Int))),[],1⟩:Stake)))
def zt0  := (zw5 ).run
def z2j:SpecT:=zu 0 LQ.nil 0 [] (fun s=>zw5 ) default (Par.q (Par.ofLP stakeL)) 1 []
theorem z85:zg Tryz.prog 54 (z2j).spec :=
 sK (A:=⟨[],[],[],[[0],[0]],[]⟩) zh51 fM Tryz.func54 (c:=(fb Tryz.f54)) (by kernel_rfl) (Lc:=0) trivial _ _ 3 _ _ _ _ _ _ [.pubB 0] (by rintro _;kernel_rfl)
def zv52:List (List Nat):=[[1],[1,31],[2],[1,3,4,5],[1,3,4,5,33,34],[1,3,4,5,33,34,35],[1,3,4,5,6,7,33,34],[1,3,4,5,6,7,33,34,72],[2],[1,3,4,5,6,7,8,33,34],[1,3,4,5,6,7,8,33,34,73],[1,3,4,5,6,7,8,33,34,73,74],[1,3,4,5,6,7,8,9,33,34,73],[1,3,4,5,6,7,8,9,33,34,73,83],[2],[1,3,4,5,6,7,8,33,34,73],[1,3,4,5,6,7,8,33,34,73],[1,3,4,5,7,33,34,96],[2],[1,3,4,5,33,34],[1,3,4,5,33,34],[1,3,4,5,107,108,109],[1,3,4,5,107,108,109,110],[1,3,4,5,10,11,107,108,109],[1,3,4,5,11,107,108,109,175],[2],[1,3,4,5,107,108,109],[1,3,4,5,107,108,109],[2]]
noncomputable def zy52:EnvT:=⟨Tryz.prog,zad [(88,zi7),(89,zjn)],false⟩
theorem zh52:(zy52).Ok:=zf ⟨zjo,zi6,trivial⟩
def ze1 (x0 x1 x2 x3 x4:Int) (x5:(A6 zr)) (x6 x7:Int) (x8:Stake) (x9:zr): Tr ((Int×Int×Int×Int×Int×(A6 zr)×Int×Int×Stake×zr)⊕((Bool)⊕(Int×Int×Int×Int×(A6 zr)×Int×Stake×zr))) :=
 (.ite (decide (x7 < 4))
  (.guard ((0:Int)≤x7∧(x7:Int) < 4)
  (.guard ((0:Int)≤x3∧(x3:Int) < 6)
  (.bind (zae (A46.get x8.Shares x7 x3)) fun v3 =>
  (.ite (!v3)
   (.leaf (.inr (.inl false)))
   (.guard ((0:Int)≤x7∧(x7:Int) < 4)
   (.guard ((0:Int)≤x3∧(x3:Int) < 6)
   (.leaf (.inl (x0,x1,x2,x3,i64.wrap (x4+(A46.get x8.Shares x7 x3)),x5,x6,i64.wrap (x7+1),x8,x9)))))))))
  (.leaf (.inr (.inr (x0,x1,x2,x4,x5,x6,x8,x9)))))
def zmt (x0 x1 x2 x3 x4:Int) (x5:(A6 zr)) (x6 x7:Int) (x8:Stake) (x9:zr):=zcv (fun s:Int×Int×Int×Int×Int×(A6 zr)×Int×Int×Stake×zr=>(ze1 s.1 s.2.1 s.2.2.1 s.2.2.2.1 s.2.2.2.2.1 s.2.2.2.2.2.1 s.2.2.2.2.2.2.1 s.2.2.2.2.2.2.2.1 s.2.2.2.2.2.2.2.2.1 s.2.2.2.2.2.2.2.2.2).run) (x0,x1,x2,x3,x4,x5,x6,x7,x8,x9)
def zazw:Ann:=⟨[],[],[],zv52,[]⟩
def zazx:=EndD.mk (LQ.kp 0 0 (LQ.v intP (LQ.v intP (LQ.v intP (LQ.v intP (LQ.kp 1 0 (LQ.v intP (LQ.seq (Par.q (Par.ofLP (a6L zky))) (LQ.v intP (LQ.v intP (LQ.seq (LP.q stakeL) (LP.q zky)))))))))))) ⟨[1,3,4,5,6,7,8,33,34,73],[]⟩ [.cells 43 63,.cells 37 5]
def zapp:=EndD.mk (Par.q boolP) ⟨[2],[]⟩ []
def zapq:=EndD.mk (LQ.kp 0 0 (LQ.v intP (LQ.v intP (LQ.v intP (LQ.kp 1 0 (LQ.v intP (LQ.seq (Par.q (Par.ofLP (a6L zky))) (LQ.v intP (LQ.seq (LP.q stakeL) (LP.q zky)))))))))) ⟨[1,3,4,5,7,8,33,34],[]⟩ [.cells 43 63,.cells 37 5]
def zatl:St→Option LR:=L2 200 4 0 zazx .ret zapp (.exit 2) zapq (u10 ze1)
def zs52a:=sub (fb Tryz.f56) [0,1,0,1,1,1,0,0,1,1,0,0,1,0,1,1,1]
theorem zazy:zl (zy52).env 0 zs52a zatl :=
 zmq (A:=zazw) zh52 fM trivial (k:=za5 zs52a) (by kernel_rfl) rfl rfl (by rintro ⟨x0,x1,x2,x3,x4,x5,x6,x7,x8,x9⟩;kernel_rfl)
def ze2 (x0 x1 x2:Int) (x3:(A6 zr)) (x4:Int) (x5:Stake): Tr ((Int×Int×Int×(A6 zr)×Int×Stake)⊕((Bool)⊕(Int×Int×Int×Stake))) :=
 (.ite (decide (x4 < 6))
  (.guard ((0:Int)≤x4∧(x4:Int) < 6)
  (.bind (zae (A6.get ⟨x3.x0.Tokens,x3.x1.Tokens,x3.x2.Tokens,x3.x3.Tokens,x3.x4.Tokens,x3.x5.Tokens⟩ x4)) fun v2 =>
  (.guard (((!v2)=false→((zae (A6.get ⟨x3.x0.Shares,x3.x1.Shares,x3.x2.Shares,x3.x3.Shares,x3.x4.Shares,x3.x5.Shares⟩ x4)).isSome=true)∧True))
  (.guard ((((!v2)||(!((zae (A6.get ⟨x3.x0.Shares,x3.x1.Shares,x3.x2.Shares,x3.x3.Shares,x3.x4.Shares,x3.x5.Shares⟩ x4)).getD default)))=false→((zae (A6.get ⟨x3.x0.Lost,x3.x1.Lost,x3.x2.Lost,x3.x3.Lost,x3.x4.Lost,x3.x5.Lost⟩ x4)).isSome=true)∧True))
  (.ite (((((!v2)||(!((zae (A6.get ⟨x3.x0.Shares,x3.x1.Shares,x3.x2.Shares,x3.x3.Shares,x3.x4.Shares,x3.x5.Shares⟩ x4)).getD default)))||(!((zae (A6.get ⟨x3.x0.Lost,x3.x1.Lost,x3.x2.Lost,x3.x3.Lost,x3.x4.Lost,x3.x5.Lost⟩ x4)).getD default)))||(((A6.get ⟨x3.x0.Shares,x3.x1.Shares,x3.x2.Shares,x3.x3.Shares,x3.x4.Shares,x3.x5.Shares⟩ x4)==0)&&(decide ((A6.get ⟨x3.x0.Tokens,x3.x1.Tokens,x3.x2.Tokens,x3.x3.Tokens,x3.x4.Tokens,x3.x5.Tokens⟩ x4) > 0))))||((A6.get ⟨x3.x0.Dead,x3.x1.Dead,x3.x2.Dead,x3.x3.Dead,x3.x4.Dead,x3.x5.Dead⟩ x4)&&(!(A6.get ⟨x3.x0.Jailed,x3.x1.Jailed,x3.x2.Jailed,x3.x3.Jailed,x3.x4.Jailed,x3.x5.Jailed⟩ x4))))
   (.leaf (.inr (.inl false)))
   (.two (zmt x0 x1 x2 x4 0 x3 x4 0 x5 (⟨A6.get ⟨x3.x0.Tokens,x3.x1.Tokens,x3.x2.Tokens,x3.x3.Tokens,x3.x4.Tokens,x3.x5.Tokens⟩ x4,A6.get ⟨x3.x0.Shares,x3.x1.Shares,x3.x2.Shares,x3.x3.Shares,x3.x4.Shares,x3.x5.Shares⟩ x4,A6.get ⟨x3.x0.Lost,x3.x1.Lost,x3.x2.Lost,x3.x3.Lost,x3.x4.Lost,x3.x5.Lost⟩ x4,A6.get ⟨x3.x0.Jailed,x3.x1.Jailed,x3.x2.Jailed,x3.x3.Jailed,x3.x4.Jailed,x3.x5.Jailed⟩ x4,A6.get ⟨x3.x0.Dead,x3.x1.Dead,x3.x2.Dead,x3.x3.Dead,x3.x4.Dead,x3.x5.Dead⟩ x4⟩:zr)) (fun v4 =>
    (.leaf (.inr (.inl v4)))) (fun v5 =>
    (.ite (v5.2.2.2.1 != v5.2.2.2.2.2.2.2.Shares)
     (.leaf (.inr (.inl false)))
     (.leaf (.inl (i64.wrap (v5.1+v5.2.2.2.2.2.2.2.Tokens),v5.2.1,i64.wrap (v5.2.2.1+v5.2.2.2.2.2.2.2.Lost),v5.2.2.2.2.1,i64.wrap (v5.2.2.2.2.2.1+1),v5.2.2.2.2.2.2.1)))))))))))
  (.leaf (.inr (.inr (x0,x1,x2,(⟨x5.Bank,x5.Validators,x5.Shares,x5.Waits,x5.Next⟩:Stake))))))
def zmu (x0 x1 x2:Int) (x3:(A6 zr)) (x4:Int) (x5:Stake):=zcv (fun s:Int×Int×Int×(A6 zr)×Int×Stake=>(ze2 s.1 s.2.1 s.2.2.1 s.2.2.2.1 s.2.2.2.2.1 s.2.2.2.2.2).run) (x0,x1,x2,x3,x4,x5)
def zazz:Ann:=⟨[([0,1,0,1,1,1,0,0,1,1,0,0,1,0,1,1,1],zatl)],[],[],zv52,[]⟩
def zaz0:=EndD.mk (LQ.kp 0 0 (LQ.v intP (LQ.v intP (LQ.v intP (LQ.seq (Par.q (Par.ofLP (a6L zky))) (LQ.v intP (LP.q stakeL))))))) ⟨[1,3,4,5,33,34],[]⟩ [.cells 43 63]
def zapr:=EndD.mk (Par.q boolP) ⟨[2],[]⟩ []
def zaps:=EndD.mk (LQ.kp 0 0 (LQ.v intP (LQ.v intP (LQ.v intP (LP.q stakeL))))) ⟨[1,3,4,5],[]⟩ [.cells 43 63]
def zatm:St→Option LR:=L2 200 4 0 zaz0 .ret zapr (.exit 0) zaps (u6 ze2)
def zs52b:=sub (fb Tryz.f56) [0,1,0,1,1,1]
theorem zaz1:zl (zy52).env 0 zs52b zatm :=
 zmq (A:=zazz) zh52 fM ⟨zazy,trivial⟩ (k:=za5 zs52b) (by kernel_rfl) rfl rfl (by rintro ⟨x0,x1,x2,x3,x4,x5⟩;kernel_rfl)
def zg1 (x0 x1 x2:Int) (x3:(List Wait)) (x4 x5:Int) (x6:Stake): Tr ((Int×Int×Int×(List Wait)×Int×Int×Stake)⊕((Bool)⊕(Int×Int×Int×Stake))) :=
 (.ite (decide (x5 < x4))
  (.guard ((0:Int)≤x5∧x5 < ((Sl.len (.waits x3):Nat):Int))
  (.guard (((decide (x5 > 0))=true→(((decide (((x3.getD x5.toNat default).Number) < 1))||(decide (((x3.getD x5.toNat default).Number)≥x6.Next)))=false→((0:Int)≤(i64.wrap (x5 - 1))∧(i64.wrap (x5 - 1)) < ((Sl.len (.waits x6.Waits):Nat):Int))∧True)))
  (.guard (((((((((decide (((x3.getD x5.toNat default).Number) < 1))||(decide (((x3.getD x5.toNat default).Number)≥x6.Next)))||((decide (x5 > 0))&&(decide (((x6.Waits.getD ((i64.wrap (x5 - 1)).toNat) default).Number)≥((x3.getD x5.toNat default).Number)))))||(decide (((x3.getD x5.toNat default).D) < 0)))||(decide (((x3.getD x5.toNat default).D)≥4)))||(decide (((x3.getD x5.toNat default).V) < 0)))||(decide (((x3.getD x5.toNat default).V)≥6)))=false→((zae ((x3.getD x5.toNat default).Amount)).isSome=true)∧True))
  (.ite ((((((((((decide (((x3.getD x5.toNat default).Number) < 1))||(decide (((x3.getD x5.toNat default).Number)≥x6.Next)))||((decide (x5 > 0))&&(decide (((x6.Waits.getD ((i64.wrap (x5 - 1)).toNat) default).Number)≥((x3.getD x5.toNat default).Number)))))||(decide (((x3.getD x5.toNat default).D) < 0)))||(decide (((x3.getD x5.toNat default).D)≥4)))||(decide (((x3.getD x5.toNat default).V) < 0)))||(decide (((x3.getD x5.toNat default).V)≥6)))||(!((zae ((x3.getD x5.toNat default).Amount)).getD default)))||(decide (((x3.getD x5.toNat default).Height) < 0)))||(decide (((x3.getD x5.toNat default).Due) < 0)))
   (.leaf (.inr (.inl false)))
   (.leaf (.inl (x0,i64.wrap (x1+((x3.getD x5.toNat default).Amount)),x2,x3,x4,i64.wrap (x5+1),x6)))))))
  (.leaf (.inr (.inr (x0,x1,x2,x6)))))
def zix (x0 x1 x2:Int) (x3:(List Wait)) (x4 x5:Int) (x6:Stake):=zcv (fun s:Int×Int×Int×(List Wait)×Int×Int×Stake=>(zg1 s.1 s.2.1 s.2.2.1 s.2.2.2.1 s.2.2.2.2.1 s.2.2.2.2.2.1 s.2.2.2.2.2.2).run) (x0,x1,x2,x3,x4,x5,x6)
def zaz2:Ann:=⟨[],[],[],zv52,[]⟩
def zaz3:=EndD.mk (LQ.kp 0 0 (LQ.v intP (LQ.v intP (LQ.v intP (LQ.v zc6 (LQ.v intP (LQ.v intP (LP.q stakeL)))))))) ⟨[1,3,4,5,107,108,109],[.pub 107,.nilsl 107 (.waits [])]⟩ [.cells 43 63]
def zapt:=EndD.mk (Par.q boolP) ⟨[2],[]⟩ []
def zapu:=EndD.mk (LQ.kp 0 0 (LQ.v intP (LQ.v intP (LQ.v intP (LP.q stakeL))))) ⟨[1,3,4,5],[]⟩ [.cells 43 63]
def zatn:St→Option LR:=L2 200 4 0 zaz3 .ret zapt (.exit 4) zapu (u7 zg1)
def zs52c:=sub (fb Tryz.f56) [0,1,0,1,1,1,1]
theorem zaz4:zl (zy52).env 0 zs52c zatn :=
 zmq (A:=zaz2) zh52 fM trivial (k:=za5 zs52c) (by kernel_rfl) rfl rfl (by rintro ⟨x0,x1,x2,x3,x4,x5,x6⟩;kernel_rfl)
def zt1 (a0:Stake): Tr (Bool) :=
 (.bind (zfh a0.Bank) fun v1 =>
 (.ite ((((!v1)||(decide (a0.Next < 1)))||(decide (a0.Next > 1125899906842624)))||(decide (((a0.Waits.length:Nat):Int) > 60)))
  (.leaf false)
  (.two (zmu 0 0 0 (⟨(⟨a0.Validators.Tokens.x0,a0.Validators.Shares.x0,a0.Validators.Lost.x0,a0.Validators.Jailed.x0,a0.Validators.Dead.x0⟩:zr),(⟨a0.Validators.Tokens.x1,a0.Validators.Shares.x1,a0.Validators.Lost.x1,a0.Validators.Jailed.x1,a0.Validators.Dead.x1⟩:zr),(⟨a0.Validators.Tokens.x2,a0.Validators.Shares.x2,a0.Validators.Lost.x2,a0.Validators.Jailed.x2,a0.Validators.Dead.x2⟩:zr),(⟨a0.Validators.Tokens.x3,a0.Validators.Shares.x3,a0.Validators.Lost.x3,a0.Validators.Jailed.x3,a0.Validators.Dead.x3⟩:zr),(⟨a0.Validators.Tokens.x4,a0.Validators.Shares.x4,a0.Validators.Lost.x4,a0.Validators.Jailed.x4,a0.Validators.Dead.x4⟩:zr),(⟨a0.Validators.Tokens.x5,a0.Validators.Shares.x5,a0.Validators.Lost.x5,a0.Validators.Jailed.x5,a0.Validators.Dead.x5⟩:zr)⟩:(A6 zr)) 0 a0) (fun v6 =>
   (.leaf v6)) (fun v7 =>
   (.two (zix v7.1 v7.2.1 v7.2.2.1 v7.2.2.2.Waits ((v7.2.2.2.Waits.length:Nat):Int) 0 v7.2.2.2) (fun v8 =>
    (.leaf v8)) (fun v9 =>
    (.leaf (((v9.1==v9.2.2.2.Bank.Bonded)&&(v9.2.1==v9.2.2.2.Bank.Waiting))&&(v9.2.2.1==v9.2.2.2.Bank.Burnt)))))))))
def zj8 (a0:Stake):=(zt1 a0).run
def zps:SpecT:=zu 0 (Par.q (Par.ofLP stakeL)) 1 [] zt1 default (Par.q boolP) 1 []
theorem zsm:zg Tryz.prog 56 (zps).spec :=
 sK (A:=⟨[([0,1,0,1,1,1],zatm),([0,1,0,1,1,1,1],zatn)],[],[],zv52,[]⟩) zh52 fM Tryz.func56 (c:=(fb Tryz.f56)) (by kernel_rfl) (Lc:=0) ⟨zaz1,zaz4,trivial⟩ _ _ 4 _ _ _ _ _ _ [] (by rintro a0;kernel_rfl)
noncomputable def zy53:EnvT:=⟨Tryz.prog,zad [(56,zps)],false⟩
theorem zh53:(zy53).Ok:=zf ⟨zsm,trivial⟩
def zsn (a0:Stake) (a1 a2:Int): Tr (Int) :=
 (.bind (zj8 a0) fun v1 =>
 (.ite (!v1)
  (.leaf 2)
  (.ite ((((decide (a1 < 0))||(decide (a1≥4)))||(decide (a2 < 0)))||(decide (a2≥6)))
   (.leaf 4)
   (.leaf 0))))
def zdm (a0:Stake) (a1 a2:Int):=(zsn a0 a1 a2).run
def zfv:SpecT:=zu 0 (LQ.v (Par.ofLP stakeL) (LQ.v intP (Par.q intP))) 3 [] (u3 zsn) default (Par.q intP) 1 []
theorem zgb:zg Tryz.prog 43 (zfv).spec :=
 sK (A:=⟨[],[],[],[[1,2,3],[1,2,7],[6],[11],[6],[6]],[]⟩) zh53 fM Tryz.func43 (c:=(fb Tryz.f43)) (by kernel_rfl) (Lc:=0) trivial _ _ 3 _ _ _ _ _ _ [] (by rintro ⟨a0,a1,a2⟩;kernel_rfl)
noncomputable def zy54:EnvT:=⟨Tryz.prog,zad [(43,zfv),(61,zly),(62,z2d)],false⟩
theorem zh54:(zy54).Ok:=zf ⟨zgb,zob,z82,trivial⟩
def zmv (a0:Stake) (a1 a2 a3:Int): Tr (Stake×Int) :=
 (.bind (zdm a0 a1 a2) fun v1 =>
 (.ite (v1 != 0)
  (.leaf (a0,v1))
  (.guard ((0:Int)≤a2∧(a2:Int) < 6)
  (.ite (a0.Validators.Dead.get a2)
   (.leaf (a0,15))
   (.ite ((decide (a3 < 1))||(decide (a3 > 1125899906842624)))
    (.leaf (a0,2))
    (.ite (decide ((a0.Validators.Shares.get a2) > 0))
     (.ite ((a0.Validators.Tokens.get a2)==0)
      (.leaf (a0,8))
      (.guard ((zab a3 (a0.Validators.Shares.get a2) (a0.Validators.Tokens.get a2)).isSome=true)
      (.ite (((((zab a3 (a0.Validators.Shares.get a2) (a0.Validators.Tokens.get a2)).getD default).2) != 0)||(decide ((((zab a3 (a0.Validators.Shares.get a2) (a0.Validators.Tokens.get a2)).getD default).1) > (i64.wrap (1125899906842624 - (a0.Validators.Shares.get a2))))))
       (.leaf (a0,6))
       (.ite ((((zab a3 (a0.Validators.Shares.get a2) (a0.Validators.Tokens.get a2)).getD default).1)==0)
        (.leaf (a0,8))
        (.bind (zpp a0.Bank a1 a3) fun v2 =>
        (.ite (v2.2 != 0)
         (.leaf (a0,v2.2))
         (.guard ((0:Int)≤a1∧(a1:Int) < 4)
         (.guard ((0:Int)≤a2∧(a2:Int) < 6)
         (.guard ((0:Int)≤a1∧(a1:Int) < 4)
         (.guard ((0:Int)≤a2∧(a2:Int) < 6)
         (.leaf ((⟨v2.1,{ a0.Validators with Tokens:=(a0.Validators.Tokens.set a2 (i64.wrap ((a0.Validators.Tokens.get a2)+a3))),Shares:=(a0.Validators.Shares.set a2 (i64.wrap ((a0.Validators.Shares.get a2)+(((zab a3 (a0.Validators.Shares.get a2) (a0.Validators.Tokens.get a2)).getD default).1)))) },(A46.set a0.Shares a1 a2 (i64.wrap ((A46.get a0.Shares a1 a2)+(((zab a3 (a0.Validators.Shares.get a2) (a0.Validators.Tokens.get a2)).getD default).1)))),a0.Waits,a0.Next⟩:Stake),0))))))))))))
     (.ite (a3==0)
      (.leaf (a0,8))
      (.bind (zpp a0.Bank a1 a3) fun v3 =>
      (.ite (v3.2 != 0)
       (.leaf (a0,v3.2))
       (.guard ((0:Int)≤a1∧(a1:Int) < 4)
       (.guard ((0:Int)≤a2∧(a2:Int) < 6)
       (.guard ((0:Int)≤a1∧(a1:Int) < 4)
       (.guard ((0:Int)≤a2∧(a2:Int) < 6)
       (.leaf ((⟨v3.1,{ a0.Validators with Tokens:=(a0.Validators.Tokens.set a2 (i64.wrap ((a0.Validators.Tokens.get a2)+a3))),Shares:=(a0.Validators.Shares.set a2 (i64.wrap ((a0.Validators.Shares.get a2)+a3))) },(A46.set a0.Shares a1 a2 (i64.wrap ((A46.get a0.Shares a1 a2)+a3))),a0.Waits,a0.Next⟩:Stake),0)))))))))))))))
def zk7 (a0:Stake) (a1 a2 a3:Int):=(zmv a0 a1 a2 a3).run
def zs3:SpecT:=zu 0 (LQ.v (Par.ofLP stakeL) (LQ.v intP (LQ.v intP (Par.q intP)))) 4 [] (u4 zmv) default (LQ.v (Par.ofLP stakeL) (Par.q intP)) 2 []
theorem zzr:zg Tryz.prog 41 (zs3).spec :=
 sK (A:=⟨[],[],[],[[1,2,3,4,8],[1,2,3,4,8,10],[1,2,3,4,8,10,22],[8,9],[1,2,3,4,8,11],[1,2,3,4,8,11,31],[8,9],[1,2,3,4,8,11,38],[8,9],[1,2,3,4,8,11,12],[1,2,3,4,8,11,12,45],[1,2,3,4,8,11,50],[8,9],[1,2,3,4,8,11,13,14],[1,2,3,4,8,11,13,75],[8,9],[1,2,3,4,8,11,12],[1,2,3,4,8,11,12,79],[8,9],[1,2,3,4,8,11,12,15,16],[1,2,3,4,8,11,12,15,16,90],[8,9],[1,2,3,4,8,11,12],[1,2,4,8,12],[4,8],[8,9]],[]⟩) zh54 fM Tryz.func41 (c:=(fb Tryz.f41)) (by kernel_rfl) (Lc:=0) trivial _ _ 5 _ _ _ _ _ _ [.pubB 8] (by rintro ⟨a0,a1,a2,a3⟩;kernel_rfl)
noncomputable def zy55:EnvT:=⟨Tryz.prog,zad [(43,zfv),(61,zly),(63,zyg),(64,zbs)],false⟩
theorem zh55:(zy55).Ok:=zf ⟨zgb,zob,z4l,zcw,trivial⟩
def zj9 (a0:Stake) (a1 a2 a3:Int) (a4:Wait): Tr (Stake×Int) :=
 (.bind (zdm a0 a1 a2) fun v1 =>
 (.ite (v1 != 0)
  (.leaf (a0,v1))
  (.ite ((((decide (a3 < 1))||(decide (a3 > 1125899906842624)))||(decide (a4.Height < 0)))||(decide (a4.Due < 0)))
   (.leaf (a0,2))
   (.guard ((0:Int)≤a1∧(a1:Int) < 4)
   (.guard ((0:Int)≤a2∧(a2:Int) < 6)
   (.ite (decide ((A46.get a0.Shares a1 a2) < a3))
    (.leaf (a0,7))
    (.ite ((decide (((a0.Waits.length:Nat):Int)≥60))||(decide (a0.Next≥1125899906842624)))
     (.leaf (a0,6))
     (.guard ((0:Int)≤a2∧(a2:Int) < 6)
     (.guard ((zab a3 (a0.Validators.Tokens.get a2) (a0.Validators.Shares.get a2)).isSome=true)
     (.ite (a3==(a0.Validators.Shares.get a2))
      (.ite ((a0.Validators.Tokens.get a2)==0)
       (.leaf (a0,8))
       (.bind (zih a0.Bank (a0.Validators.Tokens.get a2)) fun v2 =>
       (.ite (v2.2 != 0)
        (.leaf (a0,v2.2))
        (.guard ((0:Int)≤a1∧(a1:Int) < 4)
        (.guard ((0:Int)≤a2∧(a2:Int) < 6)
        (.guard ((0:Int)≤a1∧(a1:Int) < 4)
        (.guard ((0:Int)≤a2∧(a2:Int) < 6)
        (.guard ((zw a0.Waits).isSome=true)
        (.guard ((Sl.len (.waits ((zw a0.Waits).getD default))+Sl.len (.waits [{ (a4:Wait) with Number:=a0.Next,D:=a1,V:=a2,Amount:=a0.Validators.Tokens.get a2 }]))*64≤140737488355328)
        (.leaf ((⟨v2.1,{ a0.Validators with Tokens:=(a0.Validators.Tokens.set a2 (i64.wrap ((a0.Validators.Tokens.get a2) - (a0.Validators.Tokens.get a2)))),Shares:=(a0.Validators.Shares.set a2 (i64.wrap ((a0.Validators.Shares.get a2) - a3))) },(A46.set a0.Shares a1 a2 (i64.wrap ((A46.get a0.Shares a1 a2) - a3))),((zw a0.Waits).getD default)++[{ (a4:Wait) with Number:=a0.Next,D:=a1,V:=a2,Amount:=a0.Validators.Tokens.get a2 }],i64.wrap (a0.Next+1)⟩:Stake),0)))))))))))
      (.ite ((((zab a3 (a0.Validators.Tokens.get a2) (a0.Validators.Shares.get a2)).getD default).1)==0)
       (.leaf (a0,8))
       (.bind (zih a0.Bank (((zab a3 (a0.Validators.Tokens.get a2) (a0.Validators.Shares.get a2)).getD default).1)) fun v3 =>
       (.ite (v3.2 != 0)
        (.leaf (a0,v3.2))
        (.guard ((0:Int)≤a1∧(a1:Int) < 4)
        (.guard ((0:Int)≤a2∧(a2:Int) < 6)
        (.guard ((0:Int)≤a1∧(a1:Int) < 4)
        (.guard ((0:Int)≤a2∧(a2:Int) < 6)
        (.guard ((zw a0.Waits).isSome=true)
        (.guard ((Sl.len (.waits ((zw a0.Waits).getD default))+Sl.len (.waits [{ (a4:Wait) with Number:=a0.Next,D:=a1,V:=a2,Amount:=((zab a3 (a0.Validators.Tokens.get a2) (a0.Validators.Shares.get a2)).getD default).1 }]))*64≤140737488355328)
        (.leaf ((⟨v3.1,{ a0.Validators with Tokens:=(a0.Validators.Tokens.set a2 (i64.wrap ((a0.Validators.Tokens.get a2) - (((zab a3 (a0.Validators.Tokens.get a2) (a0.Validators.Shares.get a2)).getD default).1)))),Shares:=(a0.Validators.Shares.set a2 (i64.wrap ((a0.Validators.Shares.get a2) - a3))) },(A46.set a0.Shares a1 a2 (i64.wrap ((A46.get a0.Shares a1 a2) - a3))),((zw a0.Waits).getD default)++[{ (a4:Wait) with Number:=a0.Next,D:=a1,V:=a2,Amount:=((zab a3 (a0.Validators.Tokens.get a2) (a0.Validators.Shares.get a2)).getD default).1 }],i64.wrap (a0.Next+1)⟩:Stake),0)))))))))))))))))))))
def zi8 (a0:Stake) (a1 a2 a3:Int) (a4:Wait):=(zj9 a0 a1 a2 a3 a4).run
def zpt:SpecT:=zu 0 (LQ.v (Par.ofLP stakeL) (LQ.v intP (LQ.v intP (LQ.v intP (Par.q (Par.ofLP zaov)))))) 5 [] (u5 zj9) default (LQ.v (Par.ofLP stakeL) (Par.q intP)) 2 []
theorem zw6:zg Tryz.prog 42 (zpt).spec :=
 sK (A:=⟨[],[],[],[[1,2,3,5,9,10],[1,2,3,5,9,10,12],[1,2,3,5,9,10,12,23],[10,11],[1,2,3,5,9,10,41],[10,11],[1,2,3,5,9,10,50],[10,11],[1,2,3,5,9,10,60],[10,11],[1,2,3,5,9,10,13],[1,2,3,5,9,10,13,14],[1,2,3,5,9,10,13,14,83],[1,2,3,5,9,10,13,14],[1,2,3,5,9,10,13,14,89],[10,11],[1,2,3,5,9,10,13,14,16,17],[1,2,3,5,9,10,13,14,16,17,99],[10,11],[1,2,3,5,9,10,13,14],[1,2,3,5,9,10,14],[1,2,5,9,10,14],[5,9,10],[5,10],[5,10],[10,11]],[]⟩) zh55 fM Tryz.func42 (c:=(fb Tryz.f42)) (by kernel_rfl) (Lc:=0) trivial _ _ 9 _ _ _ _ _ _ [.pubB 10] (by rintro ⟨a0,a1,a2,a3,a4⟩;kernel_rfl)
def zv56:List (List Nat):=[[1,2,3,6],[1,2,3,6,13],[6],[1,2,3,6],[1,2,3,6,21,22],[1,2,3,6,21,22,23],[1,2,3,6,7,21,22],[1,2,3,6,7,21,22,34],[1,2,3,6,21,22],[1,2,3,6,21,22],[6]]
noncomputable def zy56:EnvT:=⟨Tryz.prog,zad [(64,zbs)],false⟩
theorem zh56:(zy56).Ok:=zf ⟨zcw,trivial⟩
def zec (x0 x1 x2 x3:Int) (x4 x5:Stake): Tr ((Int×Int×Int×Int×Stake×Stake)⊕(Stake×Stake)) :=
 (.ite (decide (x3 < x2))
  (.guard ((0:Int)≤x3∧x3 < ((Sl.len (.waits x4.Waits):Nat):Int))
  (.guard ((0:Int)≤x0∧(x0:Int) < 2)
  (.ite (decide ((A2.get ⟨(x4.Waits.getD x3.toNat default).h0,(x4.Waits.getD x3.toNat default).h1⟩ x0)≤x1))
   (.guard ((0:Int)≤x3∧x3 < ((Sl.len (.waits x4.Waits):Nat):Int))
   (.guard ((0:Int)≤x0∧(x0:Int) < 2)
   (.leaf (.inl (x0,x1,x2,i64.wrap (x3+1),{ x4 with Waits:=x4.Waits.set x3.toNat ({ ((x4.Waits.getD x3.toNat default):Wait) with h0:=if x0=0 then 0 else (x4.Waits.getD x3.toNat default).h0,h1:=if x0=1 then 0 else (x4.Waits.getD x3.toNat default).h1 }) },x5)))))
   (.leaf (.inl (x0,x1,x2,i64.wrap (x3+1),x4,x5))))))
  (.leaf (.inr (x4,x5))))
def zi9 (x0 x1 x2 x3:Int) (x4 x5:Stake):=zcv (fun s:Int×Int×Int×Int×Stake×Stake=>(zec s.1 s.2.1 s.2.2.1 s.2.2.2.1 s.2.2.2.2.1 s.2.2.2.2.2).run) (x0,x1,x2,x3,x4,x5)
def zaz5:Ann:=⟨[],[],[],zv56,[]⟩
def zaz6:=EndD.mk (LQ.map (LQ.v intP (LQ.v intP (LQ.kp 0 0 (LQ.kp 1 0 (LQ.v intP (LQ.v intP (LQ.seq (LP.q bankL) (LQ.seq (LP.q validatorsL) (LQ.seq (LP.q (a4L (a6L (LP.one intP)))) (LQ.k (LQ.c (.own 2)) (LQ.v intP (LQ.seq (LP.q stakeL) (Par.q zc6))))))))))))) (fun x=>(x.1,x.2.1,x.2.2.1,x.2.2.2.1,(⟨(d4 x).1,(d4 x).2.1,(d4 x).2.2.1,(d8 x).2,(d4 x).2.2.2.1⟩:Stake),(d8 x).1)) (fun y=>(y.1,y.2.1,y.2.2.1,y.2.2.2.1,(d4 y).1.Bank,(d4 y).1.Validators,(d4 y).1.Shares,(d4 y).1.Next,(d4 y).2,(d4 y).1.Waits)) (fun _=>rfl)) ⟨[1,2,3,6,21,22],[.nilcell 3 61 78 (.waits [])]⟩ [.cells 43 63,.cells 43 63,.rows 78]
def zapv:=EndD.mk (LQ.map (LQ.kp 0 0 (LQ.kp 1 0 (LQ.seq (LP.q bankL) (LQ.seq (LP.q validatorsL) (LQ.seq (LP.q (a4L (a6L (LP.one intP)))) (LQ.k (LQ.c (.own 2)) (LQ.v intP (LQ.seq (LP.q stakeL) (Par.q zc6))))))))) (fun x=>((⟨x.1,x.2.1,x.2.2.1,(d4 x).2,x.2.2.2.1⟩:Stake),(d4 x).1)) (fun y=>(y.1.Bank,y.1.Validators,y.1.Shares,y.1.Next,y.2,y.1.Waits)) (fun _=>rfl)) ⟨[3,6],[.nilcell 3 61 78 (.waits [])]⟩ [.cells 43 63,.cells 43 63,.rows 78]
def zato:St→Option LR:=L1 44 5 0 zaz6 (.exit 0) zapv (u6 zec)
def zs56a:=sub (fb Tryz.f101) [0,1,0,1,1,1]
theorem zaz7:zl (zy56).env 0 zs56a zato :=
 zd1 (A:=zaz5) zh56 fM trivial (k:=za5 zs56a) (by kernel_rfl) rfl (by rintro ⟨x0,x1,x2,x3,x4,x5⟩;kernel_rfl)
def zoi (a0:Stake) (a1 a2:Int): Tr (Stake) :=
 (.ite ((decide (a1 < 0))||(decide (a1≥2)))
  (.leaf a0)
  (.bind (zw a0.Waits) fun v1 =>
  (.bind (zi9 a1 a2 ((v1.length:Nat):Int) 0 ({ a0 with Waits:=v1 }) (default:Stake)) fun v2 =>
  (.leaf v2.1))))
def zf2 (a0:Stake) (a1 a2:Int):=(zoi a0 a1 a2).run
def zoj:SpecT:=zu 0 (LQ.v (Par.ofLP stakeL) (LQ.v intP (Par.q intP))) 3 [] (u3 zoi) default (Par.q (Par.ofLP stakeL)) 1 []
theorem zs4:zg Tryz.prog 101 (zoj).spec :=
 sK (A:=⟨[([0,1,0,1,1,1],zato)],[],[],zv56,[]⟩) zh56 fM Tryz.func101 (c:=(fb Tryz.f101)) (by kernel_rfl) (Lc:=0) ⟨zaz7,trivial⟩ _ _ 5 _ _ _ _ _ _ [.pubB 6] (by rintro ⟨a0,a1,a2⟩;kernel_rfl)
def zv57:List (List Nat):=[[1,2,4],[1,2,4,15],[4,5,6],[1,2,4,7],[1,2,4,7,8],[1,2,4,7,8,18,19,20],[1,2,4,7,8,18,19,20,21],[1,2,4,7,8,10,18,19,20],[1,2,4,7,8,10,18,19,20,33],[1,2,4,7,8,18,19,20],[1,2,4,7,8,10,11,12,18,19,20],[1,2,4,7,8,10,11,12,18,19,20,49],[4,5,6],[1,2,4,7,8,10,18,19,20],[1,2,4,7,8,18,19,20],[1,2,4,7,8,18,19,20],[2,4,8],[4,5,6]]
noncomputable def zy57:EnvT:=⟨Tryz.prog,zad [(56,zps),(107,z5f)],false⟩
theorem zh57:(zy57).Ok:=zf ⟨zsm,zabo,trivial⟩
def zil (x0:Int) (x1:(List Wait)) (x2 x3:Int) (x4 x5:Stake) (x6:(List Wait)) (x7:(List Int)): Tr ((Int×(List Wait)×Int×Int×Stake×Stake×(List Wait)×(List Int))⊕(((List Int)×Int×Stake)⊕(Stake×Stake×(List Wait)×(List Int)))) :=
 (.ite (decide (x3 < x2))
  (.guard ((0:Int)≤x3∧x3 < ((Sl.len (.waits x1):Nat):Int))
  (.ite ((decide (((x1.getD x3.toNat default).Due) > x0))||(!((((x1.getD x3.toNat default).h0)==0)&&((((x1.getD x3.toNat default).h1)==0)&&true))))
   (.guard ((Sl.len (.waits x6)+Sl.len (.waits [(x1.getD x3.toNat default)]))*64≤140737488355328)
   (.leaf (.inl (x0,x1,x2,i64.wrap (x3+1),x4,x5,x6++[(x1.getD x3.toNat default)],x7))))
   (.bind (zwz x4.Bank ((x1.getD x3.toNat default).D) ((x1.getD x3.toNat default).Amount)) fun v2 =>
   (.ite (v2.2 != 0)
    (.leaf (.inr (.inl ([],v2.2,x4))))
    (.guard ((Sl.len (.ints x7)+Sl.len (.ints [(x1.getD x3.toNat default).Number]))*8≤140737488355328)
    (.leaf (.inl (x0,x1,x2,i64.wrap (x3+1),{ x4 with Bank:=v2.1 },x5,x6,x7++[(x1.getD x3.toNat default).Number]))))))))
  (.leaf (.inr (.inr (x4,x5,x6,x7)))))
def zol (x0:Int) (x1:(List Wait)) (x2 x3:Int) (x4 x5:Stake) (x6:(List Wait)) (x7:(List Int)):=zcv (fun s:Int×(List Wait)×Int×Int×Stake×Stake×(List Wait)×(List Int)=>(zil s.1 s.2.1 s.2.2.1 s.2.2.2.1 s.2.2.2.2.1 s.2.2.2.2.2.1 s.2.2.2.2.2.2.1 s.2.2.2.2.2.2.2).run) (x0,x1,x2,x3,x4,x5,x6,x7)
def zaz8:Ann:=⟨[],[],[],zv57,[]⟩
def zaz9:=EndD.mk (LQ.v intP (LQ.kp 0 0 (LQ.kp 1 0 (LQ.k (LQ.c (.own 2)) (LQ.k (LQ.c (.own 3)) (LQ.v zc6 (LQ.v intP (LQ.v intP (LQ.seq (LP.q stakeL) (LQ.seq (LP.q stakeL) (LQ.v zc6 (Par.q zt)))))))))))) ⟨[1,2,4,7,8,18,19,20],[.nilown 7 78 (.waits []),.nilown 8 3 (.ints []),.pub 18,.nilsl 18 (.waits [])]⟩ [.cells 43 63,.cells 43 63,.rows 78,.rows 3]
def zapw:=EndD.mk (LQ.kp 0 0 (LQ.v zt (LQ.v intP (LP.q stakeL)))) ⟨[4,5,6],[.pubB 4,.pub 5,.nilsl 5 (.ints [])]⟩ [.cells 43 63]
def zapx:=EndD.mk (LQ.kp 0 0 (LQ.kp 1 0 (LQ.k (LQ.c (.own 2)) (LQ.k (LQ.c (.own 3)) (LQ.seq (LP.q stakeL) (LQ.seq (LP.q stakeL) (LQ.v zc6 (Par.q zt)))))))) ⟨[2,4,7,8],[.nilown 7 78 (.waits []),.nilown 8 3 (.ints [])]⟩ [.cells 43 63,.cells 43 63,.rows 78,.rows 3]
def zatp:St→Option LR:=L2 64 10 0 zaz9 .ret zapw (.exit 0) zapx (u8 zil)
def zs57a:=sub (fb Tryz.f70) [0,1,0,1,1,1,1]
theorem za0a:zl (zy57).env 0 zs57a zatp :=
 zmq (A:=zaz8) zh57 fM trivial (k:=za5 zs57a) (by kernel_rfl) rfl rfl (by rintro ⟨x0,x1,x2,x3,x4,x5,x6,x7⟩;kernel_rfl)
def zw7 (a0:Stake) (a1:Int): Tr (Stake×(List Int)×Int) :=
 (.bind (zj8 a0) fun v1 =>
 (.ite (!v1)
  (.leaf (a0,[],2))
  (.two (zol a1 a0.Waits ((a0.Waits.length:Nat):Int) 0 a0 (default:Stake) [] []) (fun v3 =>
   (.leaf (v3.2.2,v3.1,v3.2.1))) (fun v4 =>
   (.leaf ({ v4.1 with Waits:=v4.2.2.1 },v4.2.2.2,0))))))
def zpu (a0:Stake) (a1:Int):=(zw7 a0 a1).run
def z2k:SpecT:=zu 0 (LQ.v (Par.ofLP stakeL) (Par.q intP)) 2 [] (u2 zw7) default (LQ.v (Par.ofLP stakeL) (LQ.v zt (Par.q intP))) 3 []
theorem z86:zg Tryz.prog 70 (z2k).spec :=
 sK (A:=⟨[([0,1,0,1,1,1,1],zatp)],[],[],zv57,[]⟩) zh57 fM Tryz.func70 (c:=(fb Tryz.f70)) (by kernel_rfl) (Lc:=0) ⟨za0a,trivial⟩ _ _ 10 _ _ _ _ _ _ [.pubB 4,.pub 5] (by rintro ⟨a0,a1⟩;kernel_rfl)
def zv58:List (List Nat):=[[1,2,3,4,8],[1,2,3,4,8,11],[1,2,3,4,8,11,26],[8,9,10],[1,2,3,4,8,12],[1,2,3,4,8,12,13,14],[1,2,3,4,8,12,13,14,42],[8,9,10],[1,2,3,4,8,12,13,15],[1,2,3,4,8,12,13,15,16],[1,2,3,4,8,12,13,15,16,49,50],[1,2,3,4,8,12,13,15,16,49,50,51],[1,2,3,4,8,12,13,15,16,17,49,50],[1,2,3,4,8,12,13,15,16,18,49,50],[1,2,3,4,8,12,13,15,16,18,49,50,69],[1,2,3,4,8,12,13,15,16,18,19,49,50],[1,2,3,4,8,12,13,15,16,19,49,50],[1,2,3,4,8,12,13,15,16,49,50],[1,2,3,4,8,12,13,15,16,49,50],[4,8,12,13,14,15,16,21],[4,8,12,13,14,15,16,21,100],[8,9,10],[4,8,12,13,16],[4,8,13,16],[8,9,10]]
noncomputable def zy58:EnvT:=⟨Tryz.prog,zad [(43,zfv),(65,z0j),(64,zbs),(66,z2e)],false⟩
theorem zh58:(zy58).Ok:=zf ⟨zgb,z66,zcw,z83,trivial⟩
def zf3 (x0 x1 x2 x3 x4 x5 x6 x7:Int) (x8 x9:Stake) (x10:(List Wait)): Tr ((Int×Int×Int×Int×Int×Int×Int×Int×Stake×Stake×(List Wait))⊕(Int×Int×Int×Stake×Stake×(List Wait))) :=
 (.ite (decide (x7 < x6))
  (.guard ((0:Int)≤x7∧x7 < ((Sl.len (.waits x10):Nat):Int))
  (.ite ((((x10.getD x7.toNat default).V)==x0)&&(decide (((x10.getD x7.toNat default).Height)≥x1)))
   (.bind (znp ((x10.getD x7.toNat default).Amount) x2) fun v4 =>
   (.leaf (.inl (x0,x1,x2,x3,x4,i64.wrap (x5+v4.1),x6,i64.wrap (x7+1),x8,x9,x10.set x7.toNat ({ ((x10.getD x7.toNat default):Wait) with Amount:=i64.wrap (((x10.getD x7.toNat default).Amount) - v4.1) })))))
   (.leaf (.inl (x0,x1,x2,x3,x4,x5,x6,i64.wrap (x7+1),x8,x9,x10)))))
  (.leaf (.inr (x3,x4,x5,x8,x9,x10))))
def zk8 (x0 x1 x2 x3 x4 x5 x6 x7:Int) (x8 x9:Stake) (x10:(List Wait)):=zcv (fun s:Int×Int×Int×Int×Int×Int×Int×Int×Stake×Stake×(List Wait)=>(zf3 s.1 s.2.1 s.2.2.1 s.2.2.2.1 s.2.2.2.2.1 s.2.2.2.2.2.1 s.2.2.2.2.2.2.1 s.2.2.2.2.2.2.2.1 s.2.2.2.2.2.2.2.2.1 s.2.2.2.2.2.2.2.2.2.1 s.2.2.2.2.2.2.2.2.2.2).run) (x0,x1,x2,x3,x4,x5,x6,x7,x8,x9,x10)
def za0b:Ann:=⟨[],[],[],zv58,[]⟩
def za0c:=EndD.mk (LQ.v intP (LQ.v intP (LQ.v intP (LQ.kp 0 0 (LQ.kp 1 0 (LQ.seq (LQ.pix1 0 7 6 5 0) (LQ.v intP (LQ.k (LQ.c (.own 2)) (LQ.v intP (LQ.v intP (LQ.v intP (LQ.seq (LP.q stakeL) (LQ.seq (LP.q stakeL) (Par.q zc6)))))))))))))) ⟨[1,2,3,4,8,12,13,15,16,49,50],[.nilown 15 78 (.waits [])]⟩ [.cells 43 63,.cells 43 63,.rows 78]
def zapy:=EndD.mk (LQ.kp 0 0 (LQ.kp 1 0 (LQ.seq (LQ.pix1 0 7 6 5 0) (LQ.v intP (LQ.k (LQ.c (.own 2)) (LQ.v intP (LQ.seq (LP.q stakeL) (LQ.seq (LP.q stakeL) (Par.q zc6))))))))) ⟨[4,8,12,13,15,16],[.nilown 15 78 (.waits [])]⟩ [.cells 43 63,.cells 43 63,.rows 78]
def zatq:St→Option LR:=L1 131 6 0 za0c (.exit 0) zapy (u11 zf3)
def zs58a:=sub (fb Tryz.f44) [0,1,0,1,1,1,1,1,1,1]
theorem za0d:zl (zy58).env 0 zs58a zatq :=
 zd1 (A:=za0b) zh58 fM trivial (k:=za5 zs58a) (by kernel_rfl) rfl (by rintro ⟨x0,x1,x2,x3,x4,x5,x6,x7,x8,x9,x10⟩;kernel_rfl)
def zso (a0:Stake) (a1 a2 a3:Int): Tr (Stake×Int×Int) :=
 (.bind (zdm a0 0 a1) fun v1 =>
 (.ite (v1 != 0)
  (.leaf (a0,0,v1))
  (.guard ((0:Int)≤a1∧(a1:Int) < 6)
  (.bind (znp (a0.Validators.Tokens.get a1) a3) fun v2 =>
  (.ite (v2.2 != 0)
   (.leaf (a0,0,v2.2))
   (.bind (zw a0.Waits) fun v3 =>
   (.bind (zk8 a1 a2 a3 a1 v2.1 0 ((v3.length:Nat):Int) 0 a0 (default:Stake) v3) fun v5 =>
   (.bind (ztu v5.2.2.2.1.Bank v5.2.1 v5.2.2.1) fun v6 =>
   (.ite (v6.2 != 0)
    (.leaf (v5.2.2.2.1,0,v6.2))
    (.leaf ((⟨v6.1,{ v5.2.2.2.1.Validators with Tokens:=(v5.2.2.2.1.Validators.Tokens.set v5.1 (i64.wrap ((v5.2.2.2.1.Validators.Tokens.get v5.1) - v5.2.1))),Lost:=(v5.2.2.2.1.Validators.Lost.set v5.1 (i64.wrap ((i64.wrap ((v5.2.2.2.1.Validators.Lost.get v5.1)+v5.2.1))+v5.2.2.1))) },v5.2.2.2.1.Shares,v5.2.2.2.2.2,v5.2.2.2.1.Next⟩:Stake),i64.wrap (v5.2.1+v5.2.2.1),0)))))))))))
def zgc (a0:Stake) (a1 a2 a3:Int):=(zso a0 a1 a2 a3).run
def zsp:SpecT:=zu 0 (LQ.v (Par.ofLP stakeL) (LQ.v intP (LQ.v intP (Par.q intP)))) 4 [] (u4 zso) default (LQ.v (Par.ofLP stakeL) (LQ.v intP (Par.q intP))) 3 []
theorem zvw:zg Tryz.prog 44 (zsp).spec :=
 sK (A:=⟨[([0,1,0,1,1,1,1,1,1,1],zatq)],[],[],zv58,[]⟩) zh58 fM Tryz.func44 (c:=(fb Tryz.f44)) (by kernel_rfl) (Lc:=0) ⟨za0d,trivial⟩ _ _ 6 _ _ _ _ _ _ [.pubB 8] (by rintro ⟨a0,a1,a2,a3⟩;kernel_rfl)
noncomputable def zy59:EnvT:=⟨Tryz.prog,zad [(43,zfv)],false⟩
theorem zh59:(zy59).Ok:=zf ⟨zgb,trivial⟩
def zt2 (a0:Stake) (a1:Int): Tr (Stake×Int) :=
 (.bind (zdm a0 0 a1) fun v1 =>
 (.ite (v1 != 0)
  (.leaf (a0,v1))
  (.guard ((0:Int)≤a1∧(a1:Int) < 6)
  (.ite (a0.Validators.Jailed.get a1)
   (.leaf (a0,14))
   (.guard ((0:Int)≤a1∧(a1:Int) < 6)
   (.leaf ({ a0 with Validators:={ a0.Validators with Jailed:=(a0.Validators.Jailed.set a1 true) } },0)))))))
def zka (a0:Stake) (a1:Int):=(zt2 a0 a1).run
def z0o:SpecT:=zu 0 (LQ.v (Par.ofLP stakeL) (Par.q intP)) 2 [] (u2 zt2) default (LQ.v (Par.ofLP stakeL) (Par.q intP)) 2 []
theorem z69:zg Tryz.prog 103 (z0o).spec :=
 sK (A:=⟨[],[],[],[[1,2,4],[1,2,4,6],[1,2,4,6,11],[4,5],[1,2,4,18],[4,5],[2,4],[4,5]],[]⟩) zh59 fM Tryz.func103 (c:=(fb Tryz.f103)) (by kernel_rfl) (Lc:=0) trivial _ _ 4 _ _ _ _ _ _ [.pubB 4] (by rintro ⟨a0,a1⟩;kernel_rfl)
noncomputable def zy60:EnvT:=⟨Tryz.prog,zad [(43,zfv)],false⟩
theorem zh60:(zy60).Ok:=zf ⟨zgb,trivial⟩
def zqo (a0:Stake) (a1:Int): Tr (Stake×Int) :=
 (.bind (zdm a0 0 a1) fun v1 =>
 (.ite (v1 != 0)
  (.leaf (a0,v1))
  (.guard ((0:Int)≤a1∧(a1:Int) < 6)
  (.ite (a0.Validators.Dead.get a1)
   (.leaf (a0,15))
   (.ite (!(a0.Validators.Jailed.get a1))
    (.leaf (a0,4))
    (.leaf ({ a0 with Validators:={ a0.Validators with Jailed:=(a0.Validators.Jailed.set a1 false) } },0)))))))
def zom (a0:Stake) (a1:Int):=(zqo a0 a1).run
def zvx:SpecT:=zu 0 (LQ.v (Par.ofLP stakeL) (Par.q intP)) 2 [] (u2 zqo) default (LQ.v (Par.ofLP stakeL) (Par.q intP)) 2 []
theorem z2l:zg Tryz.prog 32 (zvx).spec :=
 sK (A:=⟨[],[],[],[[1,2,4],[1,2,4,6],[1,2,4,6,12],[4,5],[2,4,7],[2,4],[2,4,7,21],[4,5],[2,4,7,27],[4,5],[4,5]],[]⟩) zh60 fM Tryz.func32 (c:=(fb Tryz.f32)) (by kernel_rfl) (Lc:=0) trivial _ _ 4 _ _ _ _ _ _ [.pubB 4] (by rintro ⟨a0,a1⟩;kernel_rfl)
noncomputable def zy61:EnvT:=⟨Tryz.prog,zad [(43,zfv)],false⟩
theorem zh61:(zy61).Ok:=zf ⟨zgb,trivial⟩
def zt3 (a0:Stake) (a1:Int): Tr (Stake×Int) :=
 (.bind (zdm a0 0 a1) fun v1 =>
 (.ite (v1 != 0)
  (.leaf (a0,v1))
  (.guard ((0:Int)≤a1∧(a1:Int) < 6)
  (.ite (a0.Validators.Dead.get a1)
   (.leaf (a0,15))
   (.guard ((0:Int)≤a1∧(a1:Int) < 6)
   (.guard ((0:Int)≤a1∧(a1:Int) < 6)
   (.leaf ({ a0 with Validators:={ a0.Validators with Jailed:=(a0.Validators.Jailed.set a1 true),Dead:=(a0.Validators.Dead.set a1 true) } },0))))))))
def zkb (a0:Stake) (a1:Int):=(zt3 a0 a1).run
def zt4:SpecT:=zu 0 (LQ.v (Par.ofLP stakeL) (Par.q intP)) 2 [] (u2 zt3) default (LQ.v (Par.ofLP stakeL) (Par.q intP)) 2 []
theorem zyk:zg Tryz.prog 45 (zt4).spec :=
 sK (A:=⟨[],[],[],[[1,2,4],[1,2,4,6],[1,2,4,6,11],[4,5],[1,2,4,18],[4,5],[2,4],[4,5]],[]⟩) zh61 fM Tryz.func45 (c:=(fb Tryz.f45)) (by kernel_rfl) (Lc:=0) trivial _ _ 4 _ _ _ _ _ _ [.pubB 4] (by rintro ⟨a0,a1⟩;kernel_rfl)
end
