/-
  The functions, each by its tree.
-/
import Derived.Test.YtiacgjebngnddaaGreatXAbC
import Derived.Test.YtiacgjebngnddaaGreatXAbSort2
import Derived.Test.YtiacgjebngnddaaGreatXFBank
import Derived.Test.YtiacgjebngnddaaGreatXFRatio
import Derived.Test.YtiacgjebngnddaaGreatXFacts
namespace Go.Proofs.YtiacgjebngnddaaGreat.Ab
open Go Go.RowKit
open Go.IntKind (i64 u64)
set_option maxRecDepth 100000
set_option linter.unusedVariables false
set_option linter.unusedSimpArgs false
noncomputable section
def zv62:List (List Nat):=[[0,1],[1,7,8,9],[1,7,8,9,10],[1,6,7,8,9],[1,6,7,8,9,16],[4],[1,7,8,9],[4]]
def zg2 (x0:Int) (x1:(List Power)) (x2 x3:Int): Tr ((Int×(List Power)×Int×Int)⊕((Int)⊕(Unit))) :=
 (.ite (decide (x3 < x2))
  (.guard ((0:Int)≤x3∧x3 < ((Sl.len (.powers x1):Nat):Int))
  (.ite (((x1.getD x3.toNat default).V)==x0)
   (.leaf (.inr (.inl ((x1.getD x3.toNat default).N))))
   (.leaf (.inl (x0,x1,x2,i64.wrap (x3+1))))))
  (.leaf (.inr (.inr ()))))
def zs5 (x0:Int) (x1:(List Power)) (x2 x3:Int):=zcv (fun s:Int×(List Power)×Int×Int=>(zg2 s.1 s.2.1 s.2.2.1 s.2.2.2).run) (x0,x1,x2,x3)
def za0e:Ann:=⟨[],[],[],zv62,[]⟩
def za0f:=EndD.mk (LQ.v intP (LQ.v zd (LQ.v intP (Par.q intP)))) ⟨[1,7,8,9],[.pub 7,.nilsl 7 (.powers [])]⟩ []
def zapz:=EndD.mk (Par.q intP) ⟨[4],[]⟩ []
def zap0:EndD (Unit):=⟨LQ.nil,⟨[],[]⟩,[]⟩
def zatr:St→Option LR:=L2 20 3 0 za0f .ret zapz (.exit 0) zap0 (u4 zg2)
def zs62a:=sub (fb Tryz.f117) [0,1,0,1]
theorem za0g:zl (zyN).env 0 zs62a zatr :=
 zmq (A:=za0e) zhN fM trivial (k:=za5 zs62a) (by kernel_rfl) rfl rfl (by rintro ⟨x0,x1,x2,x3⟩;kernel_rfl)
def zt5 (a0:(List Power)) (a1:Int): Tr (Int) :=
 (.two (zs5 a1 a0 ((a0.length:Nat):Int) 0) (fun v1 =>
  (.leaf v1)) (fun v2 =>
  (.leaf 0)))
def zkc (a0:(List Power)) (a1:Int):=(zt5 a0 a1).run
def zt6:SpecT:=zu 0 (LQ.v zd (Par.q intP)) 2 [] (u2 zt5) default (Par.q intP) 1 []
theorem zyl:zg Tryz.prog 117 (zt6).spec :=
 sK (A:=⟨[([0,1,0,1],zatr)],[],[],zv62,[]⟩) zhN fM Tryz.func117 (c:=(fb Tryz.f117)) (by kernel_rfl) (Lc:=0) ⟨za0g,trivial⟩ _ _ 3 _ _ _ _ _ _ [] (by rintro ⟨a0,a1⟩;kernel_rfl)
def zv63:List (List Nat):=[[0,1],[0,1,5],[0,1,5,8],[0,1,5,8,9],[0,1,5,6,8],[0,1,5,6,7,8],[0,1,5,6,7,8,18],[0,1,5,8],[0,1,5,8],[4]]
noncomputable def zy63:EnvT:=⟨Tryz.prog,zad [(117,zt6)],false⟩
theorem zh63:(zy63).Ok:=zf ⟨zyl,trivial⟩
def zg3 (x0 x1:(List Power)) (x2:Int) (x3:(List Power)): Tr (((List Power)×(List Power)×Int×(List Power))⊕((List Power))) :=
 (.ite (decide (x2 < 6))
  (.bind (zkc x1 x2) fun v1 =>
  (.bind (zkc x0 x2) fun v2 =>
  (.ite (v1 != v2)
   (.guard ((Sl.len (.powers x3)+Sl.len (.powers [(⟨x2,v1⟩:Power)]))*16≤140737488355328)
   (.leaf (.inl (x0,x1,i64.wrap (x2+1),x3++[(⟨x2,v1⟩:Power)]))))
   (.leaf (.inl (x0,x1,i64.wrap (x2+1),x3))))))
  (.leaf (.inr x3)))
def zmw (x0 x1:(List Power)) (x2:Int) (x3:(List Power)):=zcv (fun s:(List Power)×(List Power)×Int×(List Power)=>(zg3 s.1 s.2.1 s.2.2.1 s.2.2.2).run) (x0,x1,x2,x3)
def za0h:Ann:=⟨[],[],[],zv63,[]⟩
def za0i:=EndD.mk (LQ.v zd (LQ.v zd (LQ.k (LQ.c (.own 0)) (LQ.v intP (Par.q zd))))) ⟨[0,1,5,8],[.pub 0,.nilsl 0 (.powers []),.pub 1,.nilsl 1 (.powers []),.nilown 5 83 (.powers [])]⟩ [.rows 83]
def zap1:=EndD.mk (LQ.k (LQ.c (.own 0)) (Par.q zd)) ⟨[5],[.nilown 5 83 (.powers [])]⟩ [.rows 83]
def zats:St→Option LR:=L1 27 5 0 za0i (.exit 0) zap1 (u4 zg3)
def zs63a:=sub (fb Tryz.f112) [0,1,0,1,1]
theorem za0j:zl (zy63).env 0 zs63a zats :=
 zd1 (A:=za0h) zh63 fM trivial (k:=za5 zs63a) (by kernel_rfl) rfl (by rintro ⟨x0,x1,x2,x3⟩;kernel_rfl)
def zt7 (a0 a1:(List Power)): Tr ((List Power)) :=
 (.bind (zmw a0 a1 0 []) fun v3 =>
 (.leaf v3))
def zed (a0 a1:(List Power)):=(zt7 a0 a1).run
def z0p:SpecT:=zu 0 (LQ.v zd (Par.q zd)) 2 [] (u2 zt7) default (Par.q zd) 1 []
theorem z7a:zg Tryz.prog 112 (z0p).spec :=
 sK (A:=⟨[([0,1,0,1,1],zats)],[],[],zv63,[]⟩) zh63 fM Tryz.func112 (c:=(fb Tryz.f112)) (by kernel_rfl) (Lc:=0) ⟨za0j,trivial⟩ _ _ 5 _ _ _ _ _ _ [.pub 4] (by rintro ⟨a0,a1⟩;kernel_rfl)
def zv64:List (List Nat):=[[0,1],[0,1,5],[0,1,5,10],[0,1,5,10,11],[0,1,5,6,10],[0,1,5,6,7,10],[0,1,5,6,7,10,16,17,18],[0,1,5,6,7,10,16,17,18,19],[0,1,5,6,7,9,10,16,17,18],[0,1,5,6,7,9,10,16,17,18,25],[0,1,5,6,7,10,16,17,18],[0,1,5,6,7,10,16,17,18],[0,1,5,6,7,10,30],[0,1,5,10],[0,1,5,10],[4]]
noncomputable def zy64:EnvT:=⟨Tryz.prog,zad [(117,zt6)],false⟩
theorem zh64:(zy64).Ok:=zf ⟨zyl,trivial⟩
def zf4 (x0 x1:(List Power)) (x2 x3 x4:Int) (x5:(List Power)) (x6 x7:Int) (x8:(List Power)): Tr (((List Power)×(List Power)×Int×Int×Int×(List Power)×Int×Int×(List Power))⊕((List Power)×(List Power)×Int×Int×Int×(List Power))) :=
 (.ite (decide (x7 < x6))
  (.guard ((0:Int)≤x7∧x7 < ((Sl.len (.powers x5):Nat):Int))
  (.ite (((x5.getD x7.toNat default).V)==x2)
   (.leaf (.inl (x0,x1,x2,(x5.getD x7.toNat default).N,x4,x5,x6,i64.wrap (x7+1),x8)))
   (.leaf (.inl (x0,x1,x2,x3,x4,x5,x6,i64.wrap (x7+1),x8)))))
  (.leaf (.inr (x0,x1,x2,x3,x4,x8))))
def zk9 (x0 x1:(List Power)) (x2 x3 x4:Int) (x5:(List Power)) (x6 x7:Int) (x8:(List Power)):=zcv (fun s:(List Power)×(List Power)×Int×Int×Int×(List Power)×Int×Int×(List Power)=>(zf4 s.1 s.2.1 s.2.2.1 s.2.2.2.1 s.2.2.2.2.1 s.2.2.2.2.2.1 s.2.2.2.2.2.2.1 s.2.2.2.2.2.2.2.1 s.2.2.2.2.2.2.2.2).run) (x0,x1,x2,x3,x4,x5,x6,x7,x8)
def za0n:Ann:=⟨[],[],[],zv64,[]⟩
def za0o:=EndD.mk (LQ.v zd (LQ.v zd (LQ.k (LQ.c (.own 0)) (LQ.v intP (LQ.v intP (LQ.v intP (LQ.v zd (LQ.v intP (LQ.v intP (Par.q zd)))))))))) ⟨[0,1,5,6,7,10,16,17,18],[.pub 0,.nilsl 0 (.powers []),.pub 1,.nilsl 1 (.powers []),.nilown 5 83 (.powers []),.pub 16,.nilsl 16 (.powers [])]⟩ [.rows 83]
def zap2:=EndD.mk (LQ.v zd (LQ.v zd (LQ.k (LQ.c (.own 0)) (LQ.v intP (LQ.v intP (LQ.v intP (Par.q zd))))))) ⟨[0,1,5,6,7,10],[.pub 0,.nilsl 0 (.powers []),.pub 1,.nilsl 1 (.powers []),.nilown 5 83 (.powers [])]⟩ [.rows 83]
def zatt:St→Option LR:=L1 39 5 0 za0o (.exit 2) zap2 (u9 zf4)
def zs64a:=sub (fb Tryz.f76) [0,1,0,1,1,0,0,1,1,0,0,1,0,1,1]
theorem za0p:zl (zy64).env 0 zs64a zatt :=
 zd1 (A:=za0n) zh64 fM trivial (k:=za5 zs64a) (by kernel_rfl) rfl (by rintro ⟨x0,x1,x2,x3,x4,x5,x6,x7,x8⟩;kernel_rfl)
def zf5 (x0 x1:(List Power)) (x2:Int) (x3:(List Power)): Tr (((List Power)×(List Power)×Int×(List Power))⊕((List Power))) :=
 (.ite (decide (x2 < 6))
  (.bind (zkc x0 x2) fun v1 =>
  (.bind (zk9 x0 x1 x2 v1 x2 x1 ((x1.length:Nat):Int) 0 x3) fun v2 =>
  (.ite (decide (v2.2.2.2.1 > 0))
   (.guard ((Sl.len (.powers v2.2.2.2.2.2)+Sl.len (.powers [(⟨v2.2.2.1,v2.2.2.2.1⟩:Power)]))*16≤140737488355328)
   (.leaf (.inl (v2.1,v2.2.1,i64.wrap (v2.2.2.2.2.1+1),v2.2.2.2.2.2++[(⟨v2.2.2.1,v2.2.2.2.1⟩:Power)]))))
   (.leaf (.inl (v2.1,v2.2.1,i64.wrap (v2.2.2.2.2.1+1),v2.2.2.2.2.2))))))
  (.leaf (.inr x3)))
def zla (x0 x1:(List Power)) (x2:Int) (x3:(List Power)):=zcv (fun s:(List Power)×(List Power)×Int×(List Power)=>(zf5 s.1 s.2.1 s.2.2.1 s.2.2.2).run) (x0,x1,x2,x3)
def za0q:Ann:=⟨[([0,1,0,1,1,0,0,1,1,0,0,1,0,1,1],zatt)],[],[],zv64,[]⟩
def za0r:=EndD.mk (LQ.v zd (LQ.v zd (LQ.k (LQ.c (.own 0)) (LQ.v intP (Par.q zd))))) ⟨[0,1,5,10],[.pub 0,.nilsl 0 (.powers []),.pub 1,.nilsl 1 (.powers []),.nilown 5 83 (.powers [])]⟩ [.rows 83]
def zap3:=EndD.mk (LQ.k (LQ.c (.own 0)) (Par.q zd)) ⟨[5],[.nilown 5 83 (.powers [])]⟩ [.rows 83]
def zatu:St→Option LR:=L1 39 5 0 za0r (.exit 0) zap3 (u4 zf5)
def zs64b:=sub (fb Tryz.f76) [0,1,0,1,1]
theorem za0s:zl (zy64).env 0 zs64b zatu :=
 zd1 (A:=za0q) zh64 fM ⟨za0p,trivial⟩ (k:=za5 zs64b) (by kernel_rfl) rfl (by rintro ⟨x0,x1,x2,x3⟩;kernel_rfl)
def zsq (a0 a1:(List Power)): Tr ((List Power)) :=
 (.bind (zla a0 a1 0 []) fun v3 =>
 (.leaf v3))
def zqp (a0 a1:(List Power)):=(zsq a0 a1).run
def zym:SpecT:=zu 0 (LQ.v zd (Par.q zd)) 2 [] (u2 zsq) default (Par.q zd) 1 []
theorem z4o:zg Tryz.prog 76 (zym).spec :=
 sK (A:=⟨[([0,1,0,1,1],zatu)],[],[],zv64,[]⟩) zh64 fM Tryz.func76 (c:=(fb Tryz.f76)) (by kernel_rfl) (Lc:=0) ⟨za0s,trivial⟩ _ _ 5 _ _ _ _ _ _ [.pub 4] (by rintro ⟨a0,a1⟩;kernel_rfl)
def zv65:List (List Nat):=[[0],[0,3],[3,6,7,8],[3,6,7,8,9],[3,5,6,7,8],[3,6,7,8],[3,6,7,8],[2]]
def zim (x0:Int) (x1:(List Power)) (x2 x3:Int): Tr ((Int×(List Power)×Int×Int)⊕(Int)) :=
 (.ite (decide (x3 < x2))
  (.guard ((0:Int)≤x3∧x3 < ((Sl.len (.powers x1):Nat):Int))
  (.leaf (.inl (i64.wrap (x0+((x1.getD x3.toNat default).N)),x1,x2,i64.wrap (x3+1)))))
  (.leaf (.inr x0)))
def zon (x0:Int) (x1:(List Power)) (x2 x3:Int):=zcv (fun s:Int×(List Power)×Int×Int=>(zim s.1 s.2.1 s.2.2.1 s.2.2.2).run) (x0,x1,x2,x3)
def za0t:Ann:=⟨[],[],[],zv65,[]⟩
def za0u:=EndD.mk (LQ.v intP (LQ.v zd (LQ.v intP (Par.q intP)))) ⟨[3,6,7,8],[.pub 6,.nilsl 6 (.powers [])]⟩ []
def zap4:=EndD.mk (Par.q intP) ⟨[3],[]⟩ []
def zatv:St→Option LR:=L1 18 3 0 za0u (.exit 0) zap4 (u4 zim)
def zs65a:=sub (fb Tryz.f68) [0,1,0,1,1]
theorem za0v:zl (zyN).env 0 zs65a zatv :=
 zd1 (A:=za0t) zhN fM trivial (k:=za5 zs65a) (by kernel_rfl) rfl (by rintro ⟨x0,x1,x2,x3⟩;kernel_rfl)
def zw8 (a0:(List Power)): Tr (Int) :=
 (.bind (zon 0 a0 ((a0.length:Nat):Int) 0) fun v1 =>
 (.leaf v1))
def zme (a0:(List Power)):=(zw8 a0).run
def z2m:SpecT:=zu 0 (Par.q zd) 1 [] zw8 default (Par.q intP) 1 []
theorem z87:zg Tryz.prog 68 (z2m).spec :=
 sK (A:=⟨[([0,1,0,1,1],zatv)],[],[],zv65,[]⟩) zhN fM Tryz.func68 (c:=(fb Tryz.f68)) (by kernel_rfl) (Lc:=0) ⟨za0v,trivial⟩ _ _ 3 _ _ _ _ _ _ [] (by rintro a0;kernel_rfl)
def zv66:List (List Nat):=[[1],[1,3],[3,8,9],[3,8,9,10],[3,4,5,8,9],[3,4,5,6,8,9],[3,4,6,8,9,22],[3,8,9],[3,8,9],[3],[3],[3],[2]]
noncomputable def zy66:EnvT:=⟨Tryz.prog,zad [(108,F_sort_SliceStable),(110,F_sort_Slice)],false⟩
theorem zh66:(zy66).Ok:=zf ⟨zwm,z6o,trivial⟩
def zin (x0:(A6 zr)) (x1:Int) (x2:(List Power)): Tr (((A6 zr)×Int×(List Power))⊕((List Power))) :=
 (.ite (decide (x1 < 6))
  (.guard ((0:Int)≤x1∧(x1:Int) < 6)
  (.guard ((100:Int)≠0)
  (.ite ((!(A6.get ⟨x0.x0.Jailed,x0.x1.Jailed,x0.x2.Jailed,x0.x3.Jailed,x0.x4.Jailed,x0.x5.Jailed⟩ x1))&&(decide ((i64.wrap (Int.tdiv (A6.get ⟨x0.x0.Tokens,x0.x1.Tokens,x0.x2.Tokens,x0.x3.Tokens,x0.x4.Tokens,x0.x5.Tokens⟩ x1) 100)) > 0)))
   (.guard ((Sl.len (.powers x2)+Sl.len (.powers [(⟨x1,i64.wrap (Int.tdiv (A6.get ⟨x0.x0.Tokens,x0.x1.Tokens,x0.x2.Tokens,x0.x3.Tokens,x0.x4.Tokens,x0.x5.Tokens⟩ x1) 100)⟩:Power)]))*16≤140737488355328)
   (.leaf (.inl (x0,i64.wrap (x1+1),x2++[(⟨x1,i64.wrap (Int.tdiv (A6.get ⟨x0.x0.Tokens,x0.x1.Tokens,x0.x2.Tokens,x0.x3.Tokens,x0.x4.Tokens,x0.x5.Tokens⟩ x1) 100)⟩:Power)]))))
   (.leaf (.inl (x0,i64.wrap (x1+1),x2))))))
  (.leaf (.inr x2)))
def zoo (x0:(A6 zr)) (x1:Int) (x2:(List Power)):=zcv (fun s:(A6 zr)×Int×(List Power)=>(zin s.1 s.2.1 s.2.2).run) (x0,x1,x2)
def za0w:Ann:=⟨[],[],[],zv66,[]⟩
def za0x:=EndD.mk (LQ.kp 0 0 (LQ.seq (Par.q (Par.ofLP (a6L zky))) (LQ.v intP (LQ.k (LQ.c (.own 1)) (Par.q zd))))) ⟨[3,8,9],[.nilcell 3 0 83 (.powers [])]⟩ [.cells 44 1,.rows 83]
def zap5:=EndD.mk (LQ.kp 0 0 (LQ.k (LQ.c (.own 1)) (Par.q zd))) ⟨[3],[.nilcell 3 0 83 (.powers [])]⟩ [.cells 44 1,.rows 83]
def zatw:St→Option LR:=L1 44 7 0 za0x (.exit 0) zap5 (u3 zin)
def zs66a:=sub (fb Tryz.f71) [0,1,0,1,1]
theorem za0y:zl (zy66).env 0 zs66a zatw :=
 zd1 (A:=za0w) zh66 fM trivial (k:=za5 zs66a) (by kernel_rfl) rfl (by rintro ⟨x0,x1,x2⟩;kernel_rfl)
def zw9 (a0:Stake): Tr ((List Power)) :=
 (.bind (zoo (⟨(⟨a0.Validators.Tokens.x0,a0.Validators.Shares.x0,a0.Validators.Lost.x0,a0.Validators.Jailed.x0,a0.Validators.Dead.x0⟩:zr),(⟨a0.Validators.Tokens.x1,a0.Validators.Shares.x1,a0.Validators.Lost.x1,a0.Validators.Jailed.x1,a0.Validators.Dead.x1⟩:zr),(⟨a0.Validators.Tokens.x2,a0.Validators.Shares.x2,a0.Validators.Lost.x2,a0.Validators.Jailed.x2,a0.Validators.Dead.x2⟩:zr),(⟨a0.Validators.Tokens.x3,a0.Validators.Shares.x3,a0.Validators.Lost.x3,a0.Validators.Jailed.x3,a0.Validators.Dead.x3⟩:zr),(⟨a0.Validators.Tokens.x4,a0.Validators.Shares.x4,a0.Validators.Lost.x4,a0.Validators.Jailed.x4,a0.Validators.Dead.x4⟩:zr),(⟨a0.Validators.Tokens.x5,a0.Validators.Shares.x5,a0.Validators.Lost.x5,a0.Validators.Jailed.x5,a0.Validators.Dead.x5⟩:zr)⟩:(A6 zr)) 0 []) fun v1 =>
 (.bind (zn8 v1) fun v2 =>
 (.guard ((0:Int)≤(if 4 < ((v2.length:Nat):Int) then 4 else ((v2.length:Nat):Int))∧(if 4 < ((v2.length:Nat):Int) then 4 else ((v2.length:Nat):Int))≤((Sl.len (.powers v2):Nat):Int))
 (.bind (zxx ((v2.drop 0).take ((if 4 < ((v2.length:Nat):Int) then 4 else ((v2.length:Nat):Int)).toNat - 0))) fun v3 =>
 (.leaf v3)))))
def zt8 (a0:Stake):=(zw9 a0).run
def z2n:SpecT:=zu 0 (Par.q (Par.ofLP stakeL)) 1 [] zw9 default (Par.q zd) 1 []
theorem z88:zg Tryz.prog 71 (z2n).spec :=
 sK (A:=⟨[([0,1,0,1,1],zatw)],[],[],zv66,[]⟩) zh66 fM Tryz.func71 (c:=(fb Tryz.f71)) (by kernel_rfl) (Lc:=0) ⟨za0y,trivial⟩ _ _ 7 _ _ _ _ _ _ [.pub 2] (by rintro a0;kernel_rfl)
end
