/-
  The functions, each by its tree.
-/
import Derived.Test.YtiacgjebngnddaaGreatXAbC
import Derived.Test.YtiacgjebngnddaaGreatXAbSort2
import Derived.Test.YtiacgjebngnddaaGreatXFBank
import Derived.Test.YtiacgjebngnddaaGreatXFRatio
import Derived.Test.YtiacgjebngnddaaGreatXFacts
namespace Go.Proofs.YtiacgjebngnddaaGreat.Ab
open Go Go.RowKit
open Go.IntKind (i64 u64)
set_option maxRecDepth 100000
set_option linter.unusedVariables false
set_option linter.unusedSimpArgs false
noncomputable section
def zv62:List (List Nat):=[[0,1],[1,7,8,9],[1,7,8,9,10],[1,6,7,8,9],[1,6,7,8,9,16],[4],[1,7,8,9],[4]]
def zf9 (x0:Int) (x1:(List Power)) (x2 x3:Int): Tr ((Int×(List Power)×Int×Int)⊕((Int)⊕(Unit))) :=
 (.ite (decide (x3 < x2))
  (.guard ((0:Int)≤x3∧x3 < ((Sl.len (.powers x1):Nat):Int))
  (.ite (((x1.getD x3.toNat default).V)==x0)
   (.leaf (.inr (.inl ((x1.getD x3.toNat default).N))))
   (.leaf (.inl (x0,x1,x2,i64.wrap (x3+1))))))
  (.leaf (.inr (.inr ()))))
def zru (x0:Int) (x1:(List Power)) (x2 x3:Int):=zdv (fun s:Int×(List Power)×Int×Int=>(zf9 s.1 s.2.1 s.2.2.1 s.2.2.2).run) (x0,x1,x2,x3)
def zaw3:Ann:=⟨[],[],[],zv62,[]⟩
def zaw4:=EndD.mk (LQ.v intP (LQ.v zm (LQ.v intP (Par.q intP)))) ⟨[1,7,8,9],[.pub 7,.nilsl 7 (.powers [])]⟩ []
def zanx:=EndD.mk (Par.q intP) ⟨[4],[]⟩ []
def zany:EndD (Unit):=⟨LQ.nil,⟨[],[]⟩,[]⟩
def zar1:St→Option LR:=L2 20 3 0 zaw4 .ret zanx (.exit 0) zany (u4 zf9)
def zs62a:=sub (fb Tryz.f117) [0,1,0,1]
theorem zaw5:zo (zyN).env 0 zs62a zar1 :=
 zpm (A:=zaw3) zhN fM trivial (k:=zb5 zs62a) (by kernel_rfl) rfl rfl (by rintro ⟨x0,x1,x2,x3⟩;kernel_rfl)
def zst (a0:(List Power)) (a1:Int): Tr (Int) :=
 (.two (zru a1 a0 ((a0.length:Nat):Int) 0) (fun v1 =>
  (.leaf v1)) (fun v2 =>
  (.leaf 0)))
def zi6 (a0:(List Power)) (a1:Int):=(zst a0 a1).run
def zsu:SpecT:=zt 0 (LQ.v zm (Par.q intP)) 2 [] (u2 zst) default (Par.q intP) 1 []
theorem zw5:zf Tryz.prog 117 (zsu).spec :=
 sK (A:=⟨[([0,1,0,1],zar1)],[],[],zv62,[]⟩) zhN fM Tryz.func117 (c:=(fb Tryz.f117)) (by kernel_rfl) (Lc:=0) ⟨zaw5,trivial⟩ _ _ 3 _ _ _ _ _ _ [] (by rintro ⟨a0,a1⟩;kernel_rfl)
def zv63:List (List Nat):=[[0,1],[0,1,5],[0,1,5,8],[0,1,5,8,9],[0,1,5,6,8],[0,1,5,6,7,8],[0,1,5,6,7,8,18],[0,1,5,8],[0,1,5,8],[4]]
noncomputable def zy63:EnvT:=⟨Tryz.prog,zad [(117,zsu)]⟩
theorem zh63:(zy63).Ok:=ze ⟨zw5,trivial⟩
def zga (x0 x1:(List Power)) (x2:Int) (x3:(List Power)): Tr (((List Power)×(List Power)×Int×(List Power))⊕((List Power))) :=
 (.ite (decide (x2 < 6))
  (.bind (zi6 x1 x2) fun v1 =>
  (.bind (zi6 x0 x2) fun v2 =>
  (.ite (v1 != v2)
   (.guard ((Sl.len (.powers x3)+Sl.len (.powers [(⟨x2,v1⟩:Power)]))*16≤140737488355328)
   (.leaf (.inl (x0,x1,i64.wrap (x2+1),x3++[(⟨x2,v1⟩:Power)]))))
   (.leaf (.inl (x0,x1,i64.wrap (x2+1),x3))))))
  (.leaf (.inr x3)))
def zln (x0 x1:(List Power)) (x2:Int) (x3:(List Power)):=zdv (fun s:(List Power)×(List Power)×Int×(List Power)=>(zga s.1 s.2.1 s.2.2.1 s.2.2.2).run) (x0,x1,x2,x3)
def zaw6:Ann:=⟨[],[],[],zv63,[]⟩
def zaw7:=EndD.mk (LQ.v zm (LQ.v zm (LQ.k (LQ.c (.own 0)) (LQ.v intP (Par.q zm))))) ⟨[0,1,5,8],[.pub 0,.nilsl 0 (.powers []),.pub 1,.nilsl 1 (.powers []),.nilown 5 83 (.powers [])]⟩ [.rows 83]
def zanz:=EndD.mk (LQ.k (LQ.c (.own 0)) (Par.q zm)) ⟨[5],[.nilown 5 83 (.powers [])]⟩ [.rows 83]
def zar2:St→Option LR:=L1 27 5 0 zaw7 (.exit 0) zanz (u4 zga)
def zs63a:=sub (fb Tryz.f112) [0,1,0,1,1]
theorem zaw8:zo (zy63).env 0 zs63a zar2 :=
 zf4 (A:=zaw6) zh63 fM trivial (k:=zb5 zs63a) (by kernel_rfl) rfl (by rintro ⟨x0,x1,x2,x3⟩;kernel_rfl)
def zsv (a0 a1:(List Power)): Tr ((List Power)) :=
 (.bind (zln a0 a1 0 []) fun v3 =>
 (.leaf v3))
def zd0 (a0 a1:(List Power)):=(zsv a0 a1).run
def zyw:SpecT:=zt 0 (LQ.v zm (Par.q zm)) 2 [] (u2 zsv) default (Par.q zm) 1 []
theorem z5s:zf Tryz.prog 112 (zyw).spec :=
 sK (A:=⟨[([0,1,0,1,1],zar2)],[],[],zv63,[]⟩) zh63 fM Tryz.func112 (c:=(fb Tryz.f112)) (by kernel_rfl) (Lc:=0) ⟨zaw8,trivial⟩ _ _ 5 _ _ _ _ _ _ [.pub 4] (by rintro ⟨a0,a1⟩;kernel_rfl)
def zv64:List (List Nat):=[[0,1],[0,1,5],[0,1,5,10],[0,1,5,10,11],[0,1,5,6,10],[0,1,5,6,7,10],[0,1,5,6,7,10,16,17,18],[0,1,5,6,7,10,16,17,18,19],[0,1,5,6,7,9,10,16,17,18],[0,1,5,6,7,9,10,16,17,18,25],[0,1,5,6,7,10,16,17,18],[0,1,5,6,7,10,16,17,18],[0,1,5,6,7,10,30],[0,1,5,10],[0,1,5,10],[4]]
noncomputable def zy64:EnvT:=⟨Tryz.prog,zad [(117,zsu)]⟩
theorem zh64:(zy64).Ok:=ze ⟨zw5,trivial⟩
def zfh (x0 x1:(List Power)) (x2 x3 x4:Int) (x5:(List Power)) (x6 x7:Int) (x8:(List Power)): Tr (((List Power)×(List Power)×Int×Int×Int×(List Power)×Int×Int×(List Power))⊕((List Power)×(List Power)×Int×Int×Int×(List Power))) :=
 (.ite (decide (x7 < x6))
  (.guard ((0:Int)≤x7∧x7 < ((Sl.len (.powers x5):Nat):Int))
  (.ite (((x5.getD x7.toNat default).V)==x2)
   (.leaf (.inl (x0,x1,x2,(x5.getD x7.toNat default).N,x4,x5,x6,i64.wrap (x7+1),x8)))
   (.leaf (.inl (x0,x1,x2,x3,x4,x5,x6,i64.wrap (x7+1),x8)))))
  (.leaf (.inr (x0,x1,x2,x3,x4,x8))))
def zj2 (x0 x1:(List Power)) (x2 x3 x4:Int) (x5:(List Power)) (x6 x7:Int) (x8:(List Power)):=zdv (fun s:(List Power)×(List Power)×Int×Int×Int×(List Power)×Int×Int×(List Power)=>(zfh s.1 s.2.1 s.2.2.1 s.2.2.2.1 s.2.2.2.2.1 s.2.2.2.2.2.1 s.2.2.2.2.2.2.1 s.2.2.2.2.2.2.2.1 s.2.2.2.2.2.2.2.2).run) (x0,x1,x2,x3,x4,x5,x6,x7,x8)
def zaxc:Ann:=⟨[],[],[],zv64,[]⟩
def zaxd:=EndD.mk (LQ.v zm (LQ.v zm (LQ.k (LQ.c (.own 0)) (LQ.v intP (LQ.v intP (LQ.v intP (LQ.v zm (LQ.v intP (LQ.v intP (Par.q zm)))))))))) ⟨[0,1,5,6,7,10,16,17,18],[.pub 0,.nilsl 0 (.powers []),.pub 1,.nilsl 1 (.powers []),.nilown 5 83 (.powers []),.pub 16,.nilsl 16 (.powers [])]⟩ [.rows 83]
def zan0:=EndD.mk (LQ.v zm (LQ.v zm (LQ.k (LQ.c (.own 0)) (LQ.v intP (LQ.v intP (LQ.v intP (Par.q zm))))))) ⟨[0,1,5,6,7,10],[.pub 0,.nilsl 0 (.powers []),.pub 1,.nilsl 1 (.powers []),.nilown 5 83 (.powers [])]⟩ [.rows 83]
def zar3:St→Option LR:=L1 39 5 0 zaxd (.exit 2) zan0 (u9 zfh)
def zs64a:=sub (fb Tryz.f76) [0,1,0,1,1,0,0,1,1,0,0,1,0,1,1]
theorem zaxe:zo (zy64).env 0 zs64a zar3 :=
 zf4 (A:=zaxc) zh64 fM trivial (k:=zb5 zs64a) (by kernel_rfl) rfl (by rintro ⟨x0,x1,x2,x3,x4,x5,x6,x7,x8⟩;kernel_rfl)
def zfi (x0 x1:(List Power)) (x2:Int) (x3:(List Power)): Tr (((List Power)×(List Power)×Int×(List Power))⊕((List Power))) :=
 (.ite (decide (x2 < 6))
  (.bind (zi6 x0 x2) fun v1 =>
  (.bind (zj2 x0 x1 x2 v1 x2 x1 ((x1.length:Nat):Int) 0 x3) fun v2 =>
  (.ite (decide (v2.2.2.2.1 > 0))
   (.guard ((Sl.len (.powers v2.2.2.2.2.2)+Sl.len (.powers [(⟨v2.2.2.1,v2.2.2.2.1⟩:Power)]))*16≤140737488355328)
   (.leaf (.inl (v2.1,v2.2.1,i64.wrap (v2.2.2.2.2.1+1),v2.2.2.2.2.2++[(⟨v2.2.2.1,v2.2.2.2.1⟩:Power)]))))
   (.leaf (.inl (v2.1,v2.2.1,i64.wrap (v2.2.2.2.2.1+1),v2.2.2.2.2.2))))))
  (.leaf (.inr x3)))
def zj3 (x0 x1:(List Power)) (x2:Int) (x3:(List Power)):=zdv (fun s:(List Power)×(List Power)×Int×(List Power)=>(zfi s.1 s.2.1 s.2.2.1 s.2.2.2).run) (x0,x1,x2,x3)
def zaxf:Ann:=⟨[([0,1,0,1,1,0,0,1,1,0,0,1,0,1,1],zar3)],[],[],zv64,[]⟩
def zaxg:=EndD.mk (LQ.v zm (LQ.v zm (LQ.k (LQ.c (.own 0)) (LQ.v intP (Par.q zm))))) ⟨[0,1,5,10],[.pub 0,.nilsl 0 (.powers []),.pub 1,.nilsl 1 (.powers []),.nilown 5 83 (.powers [])]⟩ [.rows 83]
def zan1:=EndD.mk (LQ.k (LQ.c (.own 0)) (Par.q zm)) ⟨[5],[.nilown 5 83 (.powers [])]⟩ [.rows 83]
def zar4:St→Option LR:=L1 39 5 0 zaxg (.exit 0) zan1 (u4 zfi)
def zs64b:=sub (fb Tryz.f76) [0,1,0,1,1]
theorem zaxh:zo (zy64).env 0 zs64b zar4 :=
 zf4 (A:=zaxf) zh64 fM ⟨zaxe,trivial⟩ (k:=zb5 zs64b) (by kernel_rfl) rfl (by rintro ⟨x0,x1,x2,x3⟩;kernel_rfl)
def zrb (a0 a1:(List Power)): Tr ((List Power)) :=
 (.bind (zj3 a0 a1 0 []) fun v3 =>
 (.leaf v3))
def zo8 (a0 a1:(List Power)):=(zrb a0 a1).run
def zw6:SpecT:=zt 0 (LQ.v zm (Par.q zm)) 2 [] (u2 zrb) default (Par.q zm) 1 []
theorem z23:zf Tryz.prog 76 (zw6).spec :=
 sK (A:=⟨[([0,1,0,1,1],zar4)],[],[],zv64,[]⟩) zh64 fM Tryz.func76 (c:=(fb Tryz.f76)) (by kernel_rfl) (Lc:=0) ⟨zaxh,trivial⟩ _ _ 5 _ _ _ _ _ _ [.pub 4] (by rintro ⟨a0,a1⟩;kernel_rfl)
def zv65:List (List Nat):=[[0],[0,3],[3,6,7,8],[3,6,7,8,9],[3,5,6,7,8],[3,6,7,8],[3,6,7,8],[2]]
def zhj (x0:Int) (x1:(List Power)) (x2 x3:Int): Tr ((Int×(List Power)×Int×Int)⊕(Int)) :=
 (.ite (decide (x3 < x2))
  (.guard ((0:Int)≤x3∧x3 < ((Sl.len (.powers x1):Nat):Int))
  (.leaf (.inl (i64.wrap (x0+((x1.getD x3.toNat default).N)),x1,x2,i64.wrap (x3+1)))))
  (.leaf (.inr x0)))
def znb (x0:Int) (x1:(List Power)) (x2 x3:Int):=zdv (fun s:Int×(List Power)×Int×Int=>(zhj s.1 s.2.1 s.2.2.1 s.2.2.2).run) (x0,x1,x2,x3)
def zaxi:Ann:=⟨[],[],[],zv65,[]⟩
def zaxj:=EndD.mk (LQ.v intP (LQ.v zm (LQ.v intP (Par.q intP)))) ⟨[3,6,7,8],[.pub 6,.nilsl 6 (.powers [])]⟩ []
def zan2:=EndD.mk (Par.q intP) ⟨[3],[]⟩ []
def zar5:St→Option LR:=L1 18 3 0 zaxj (.exit 0) zan2 (u4 zhj)
def zs65a:=sub (fb Tryz.f68) [0,1,0,1,1]
theorem zaxk:zo (zyN).env 0 zs65a zar5 :=
 zf4 (A:=zaxi) zhN fM trivial (k:=zb5 zs65a) (by kernel_rfl) rfl (by rintro ⟨x0,x1,x2,x3⟩;kernel_rfl)
def zvp (a0:(List Power)): Tr (Int) :=
 (.bind (znb 0 a0 ((a0.length:Nat):Int) 0) fun v1 =>
 (.leaf v1))
def zk4 (a0:(List Power)):=(zvp a0).run
def z05:SpecT:=zt 0 (Par.q zm) 1 [] zvp default (Par.q intP) 1 []
theorem z7t:zf Tryz.prog 68 (z05).spec :=
 sK (A:=⟨[([0,1,0,1,1],zar5)],[],[],zv65,[]⟩) zhN fM Tryz.func68 (c:=(fb Tryz.f68)) (by kernel_rfl) (Lc:=0) ⟨zaxk,trivial⟩ _ _ 3 _ _ _ _ _ _ [] (by rintro a0;kernel_rfl)
def zv66:List (List Nat):=[[1],[1,3],[3,8,9],[3,8,9,10],[3,4,5,8,9],[3,4,5,6,8,9],[3,4,6,8,9,22],[3,8,9],[3,8,9],[3],[3],[3],[2]]
noncomputable def zy66:EnvT:=⟨Tryz.prog,zad [(108,F_sort_SliceStable),(110,F_sort_Slice)]⟩
theorem zh66:(zy66).Ok:=ze ⟨zu4,z49,trivial⟩
def zhk (x0:(A6 zn)) (x1:Int) (x2:(List Power)): Tr (((A6 zn)×Int×(List Power))⊕((List Power))) :=
 (.ite (decide (x1 < 6))
  (.guard ((0:Int)≤x1∧(x1:Int) < 6)
  (.guard ((100:Int)≠0)
  (.ite ((!(A6.get ⟨x0.x0.Jailed,x0.x1.Jailed,x0.x2.Jailed,x0.x3.Jailed,x0.x4.Jailed,x0.x5.Jailed⟩ x1))&&(decide ((i64.wrap (Int.tdiv (A6.get ⟨x0.x0.Tokens,x0.x1.Tokens,x0.x2.Tokens,x0.x3.Tokens,x0.x4.Tokens,x0.x5.Tokens⟩ x1) 100)) > 0)))
   (.guard ((Sl.len (.powers x2)+Sl.len (.powers [(⟨x1,i64.wrap (Int.tdiv (A6.get ⟨x0.x0.Tokens,x0.x1.Tokens,x0.x2.Tokens,x0.x3.Tokens,x0.x4.Tokens,x0.x5.Tokens⟩ x1) 100)⟩:Power)]))*16≤140737488355328)
   (.leaf (.inl (x0,i64.wrap (x1+1),x2++[(⟨x1,i64.wrap (Int.tdiv (A6.get ⟨x0.x0.Tokens,x0.x1.Tokens,x0.x2.Tokens,x0.x3.Tokens,x0.x4.Tokens,x0.x5.Tokens⟩ x1) 100)⟩:Power)]))))
   (.leaf (.inl (x0,i64.wrap (x1+1),x2))))))
  (.leaf (.inr x2)))
def znc (x0:(A6 zn)) (x1:Int) (x2:(List Power)):=zdv (fun s:(A6 zn)×Int×(List Power)=>(zhk s.1 s.2.1 s.2.2).run) (x0,x1,x2)
def zaxl:Ann:=⟨[],[],[],zv66,[]⟩
def zaxm:=EndD.mk (LQ.kp 0 0 (LQ.seq (Par.q (Par.ofLP (a6L zjr))) (LQ.v intP (LQ.k (LQ.c (.own 1)) (Par.q zm))))) ⟨[3,8,9],[.nilcell 3 0 83 (.powers [])]⟩ [.cells 44 1,.rows 83]
def zan3:=EndD.mk (LQ.kp 0 0 (LQ.k (LQ.c (.own 1)) (Par.q zm))) ⟨[3],[.nilcell 3 0 83 (.powers [])]⟩ [.cells 44 1,.rows 83]
def zar6:St→Option LR:=L1 44 7 0 zaxm (.exit 0) zan3 (u3 zhk)
def zs66a:=sub (fb Tryz.f71) [0,1,0,1,1]
theorem zaxn:zo (zy66).env 0 zs66a zar6 :=
 zf4 (A:=zaxl) zh66 fM trivial (k:=zb5 zs66a) (by kernel_rfl) rfl (by rintro ⟨x0,x1,x2⟩;kernel_rfl)
def zvq (a0:Stake): Tr ((List Power)) :=
 (.bind (znc (⟨(⟨a0.Validators.Tokens.x0,a0.Validators.Shares.x0,a0.Validators.Lost.x0,a0.Validators.Jailed.x0,a0.Validators.Dead.x0⟩:zn),(⟨a0.Validators.Tokens.x1,a0.Validators.Shares.x1,a0.Validators.Lost.x1,a0.Validators.Jailed.x1,a0.Validators.Dead.x1⟩:zn),(⟨a0.Validators.Tokens.x2,a0.Validators.Shares.x2,a0.Validators.Lost.x2,a0.Validators.Jailed.x2,a0.Validators.Dead.x2⟩:zn),(⟨a0.Validators.Tokens.x3,a0.Validators.Shares.x3,a0.Validators.Lost.x3,a0.Validators.Jailed.x3,a0.Validators.Dead.x3⟩:zn),(⟨a0.Validators.Tokens.x4,a0.Validators.Shares.x4,a0.Validators.Lost.x4,a0.Validators.Jailed.x4,a0.Validators.Dead.x4⟩:zn),(⟨a0.Validators.Tokens.x5,a0.Validators.Shares.x5,a0.Validators.Lost.x5,a0.Validators.Jailed.x5,a0.Validators.Dead.x5⟩:zn)⟩:(A6 zn)) 0 []) fun v1 =>
 (.bind (zmw v1) fun v2 =>
 (.guard ((0:Int)≤(if 4 < ((v2.length:Nat):Int) then 4 else ((v2.length:Nat):Int))∧(if 4 < ((v2.length:Nat):Int) then 4 else ((v2.length:Nat):Int))≤((Sl.len (.powers v2):Nat):Int))
 (.bind (zwg ((v2.drop 0).take ((if 4 < ((v2.length:Nat):Int) then 4 else ((v2.length:Nat):Int)).toNat - 0))) fun v3 =>
 (.leaf v3)))))
def zsw (a0:Stake):=(zvq a0).run
def z06:SpecT:=zt 0 (Par.q (Par.ofLP stakeL)) 1 [] zvq default (Par.q zm) 1 []
theorem z7u:zf Tryz.prog 71 (z06).spec :=
 sK (A:=⟨[([0,1,0,1,1],zar6)],[],[],zv66,[]⟩) zh66 fM Tryz.func71 (c:=(fb Tryz.f71)) (by kernel_rfl) (Lc:=0) ⟨zaxn,trivial⟩ _ _ 7 _ _ _ _ _ _ [.pub 2] (by rintro a0;kernel_rfl)
end
