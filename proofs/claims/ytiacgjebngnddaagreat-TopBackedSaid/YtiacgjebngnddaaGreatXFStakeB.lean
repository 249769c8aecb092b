/-
  The functions, each by its tree.
-/
import Derived.Test.YtiacgjebngnddaaGreatXAbC
import Derived.Test.YtiacgjebngnddaaGreatXAbSort2
import Derived.Test.YtiacgjebngnddaaGreatXFBank
import Derived.Test.YtiacgjebngnddaaGreatXFRatio
import Derived.Test.YtiacgjebngnddaaGreatXFacts
namespace Go.Proofs.YtiacgjebngnddaaGreat.Ab
open Go Go.RowKit
open Go.IntKind (i64 u64)
set_option maxRecDepth 100000
set_option linter.unusedVariables false
set_option linter.unusedSimpArgs false
noncomputable section
def zv62:List (List Nat):=[[0,1],[1,7,8,9],[1,7,8,9,10],[1,6,7,8,9],[1,6,7,8,9,16],[4],[1,7,8,9],[4]]
def zf7 (x0:Int) (x1:(List Power)) (x2 x3:Int): Tr ((Int×(List Power)×Int×Int)⊕((Int)⊕(Unit))) :=
 (.ite (decide (x3 < x2))
  (.guard ((0:Int)≤x3∧x3 < ((Sl.len (.powers x1):Nat):Int))
  (.ite (((x1.getD x3.toNat default).V)==x0)
   (.leaf (.inr (.inl ((x1.getD x3.toNat default).N))))
   (.leaf (.inl (x0,x1,x2,i64.wrap (x3+1))))))
  (.leaf (.inr (.inr ()))))
def zrr (x0:Int) (x1:(List Power)) (x2 x3:Int):=zde (fun s:Int×(List Power)×Int×Int=>(zf7 s.1 s.2.1 s.2.2.1 s.2.2.2).run) (x0,x1,x2,x3)
def zaw0:Ann:=⟨[],[],[],zv62,[]⟩
def zaw1:=EndD.mk (LQ.v intP (LQ.v zo (LQ.v intP (Par.q intP)))) ⟨[1,7,8,9],[.pub 7,.nilsl 7 (.powers [])]⟩ []
def zan6:=EndD.mk (Par.q intP) ⟨[4],[]⟩ []
def zan7:EndD (Unit):=⟨LQ.nil,⟨[],[]⟩,[]⟩
def zar4:St→Option LR:=L2 20 3 0 zaw1 .ret zan6 (.exit 0) zan7 (u4 zf7)
def zs62a:=sub (fb Tryz.f117) [0,1,0,1]
theorem zaw2:zq (zyN).env 0 zs62a zar4 :=
 zou (A:=zaw0) zhN fM trivial (k:=zca zs62a) (by kernel_rfl) rfl rfl (by rintro ⟨x0,x1,x2,x3⟩;kernel_rfl)
def zsr (a0:(List Power)) (a1:Int): Tr (Int) :=
 (.two (zrr a1 a0 ((a0.length:Nat):Int) 0) (fun v1 =>
  (.leaf v1)) (fun v2 =>
  (.leaf 0)))
def zi4 (a0:(List Power)) (a1:Int):=(zsr a0 a1).run
def zss:SpecT:=zt 0 (LQ.v zo (Par.q intP)) 2 [] (u2 zsr) default (Par.q intP) 1 []
theorem zw1:zg Tryz.prog 117 (zss).spec :=
 sK (A:=⟨[([0,1,0,1],zar4)],[],[],zv62,[]⟩) zhN fM Tryz.func117 (c:=(fb Tryz.f117)) (by kernel_rfl) (Lc:=0) ⟨zaw2,trivial⟩ _ _ 3 _ _ _ _ _ _ [] (by rintro ⟨a0,a1⟩;kernel_rfl)
def zv63:List (List Nat):=[[0,1],[0,1,5],[0,1,5,8],[0,1,5,8,9],[0,1,5,6,8],[0,1,5,6,7,8],[0,1,5,6,7,8,18],[0,1,5,8],[0,1,5,8],[4]]
noncomputable def zy63:EnvT:=⟨Tryz.prog,zad [(117,zss)]⟩
theorem zh63:(zy63).Ok:=zf ⟨zw1,trivial⟩
def zf8 (x0 x1:(List Power)) (x2:Int) (x3:(List Power)): Tr (((List Power)×(List Power)×Int×(List Power))⊕((List Power))) :=
 (.ite (decide (x2 < 6))
  (.bind (zi4 x1 x2) fun v1 =>
  (.bind (zi4 x0 x2) fun v2 =>
  (.ite (v1 != v2)
   (.guard ((Sl.len (.powers x3)+Sl.len (.powers [(⟨x2,v1⟩:Power)]))*16≤140737488355328)
   (.leaf (.inl (x0,x1,i64.wrap (x2+1),x3++[(⟨x2,v1⟩:Power)]))))
   (.leaf (.inl (x0,x1,i64.wrap (x2+1),x3))))))
  (.leaf (.inr x3)))
def zlg (x0 x1:(List Power)) (x2:Int) (x3:(List Power)):=zde (fun s:(List Power)×(List Power)×Int×(List Power)=>(zf8 s.1 s.2.1 s.2.2.1 s.2.2.2).run) (x0,x1,x2,x3)
def zaw3:Ann:=⟨[],[],[],zv63,[]⟩
def zaw4:=EndD.mk (LQ.v zo (LQ.v zo (LQ.k (LQ.c (.own 0)) (LQ.v intP (Par.q zo))))) ⟨[0,1,5,8],[.pub 0,.nilsl 0 (.powers []),.pub 1,.nilsl 1 (.powers []),.nilown 5 83 (.powers [])]⟩ [.rows 83]
def zan8:=EndD.mk (LQ.k (LQ.c (.own 0)) (Par.q zo)) ⟨[5],[.nilown 5 83 (.powers [])]⟩ [.rows 83]
def zar5:St→Option LR:=L1 27 5 0 zaw4 (.exit 0) zan8 (u4 zf8)
def zs63a:=sub (fb Tryz.f112) [0,1,0,1,1]
theorem zaw5:zq (zy63).env 0 zs63a zar5 :=
 zgy (A:=zaw3) zh63 fM trivial (k:=zca zs63a) (by kernel_rfl) rfl (by rintro ⟨x0,x1,x2,x3⟩;kernel_rfl)
def zst (a0 a1:(List Power)): Tr ((List Power)) :=
 (.bind (zlg a0 a1 0 []) fun v3 =>
 (.leaf v3))
def zdx (a0 a1:(List Power)):=(zst a0 a1).run
def zyx:SpecT:=zt 0 (LQ.v zo (Par.q zo)) 2 [] (u2 zst) default (Par.q zo) 1 []
theorem z50:zg Tryz.prog 112 (zyx).spec :=
 sK (A:=⟨[([0,1,0,1,1],zar5)],[],[],zv63,[]⟩) zh63 fM Tryz.func112 (c:=(fb Tryz.f112)) (by kernel_rfl) (Lc:=0) ⟨zaw5,trivial⟩ _ _ 5 _ _ _ _ _ _ [.pub 4] (by rintro ⟨a0,a1⟩;kernel_rfl)
def zv64:List (List Nat):=[[0,1],[0,1,5],[0,1,5,10],[0,1,5,10,11],[0,1,5,6,10],[0,1,5,6,7,10],[0,1,5,6,7,10,16,17,18],[0,1,5,6,7,10,16,17,18,19],[0,1,5,6,7,9,10,16,17,18],[0,1,5,6,7,9,10,16,17,18,25],[0,1,5,6,7,10,16,17,18],[0,1,5,6,7,10,16,17,18],[0,1,5,6,7,10,30],[0,1,5,10],[0,1,5,10],[4]]
noncomputable def zy64:EnvT:=⟨Tryz.prog,zad [(117,zss)]⟩
theorem zh64:(zy64).Ok:=zf ⟨zw1,trivial⟩
def zfg (x0 x1:(List Power)) (x2 x3 x4:Int) (x5:(List Power)) (x6 x7:Int) (x8:(List Power)): Tr (((List Power)×(List Power)×Int×Int×Int×(List Power)×Int×Int×(List Power))⊕((List Power)×(List Power)×Int×Int×Int×(List Power))) :=
 (.ite (decide (x7 < x6))
  (.guard ((0:Int)≤x7∧x7 < ((Sl.len (.powers x5):Nat):Int))
  (.ite (((x5.getD x7.toNat default).V)==x2)
   (.leaf (.inl (x0,x1,x2,(x5.getD x7.toNat default).N,x4,x5,x6,i64.wrap (x7+1),x8)))
   (.leaf (.inl (x0,x1,x2,x3,x4,x5,x6,i64.wrap (x7+1),x8)))))
  (.leaf (.inr (x0,x1,x2,x3,x4,x8))))
def zjy (x0 x1:(List Power)) (x2 x3 x4:Int) (x5:(List Power)) (x6 x7:Int) (x8:(List Power)):=zde (fun s:(List Power)×(List Power)×Int×Int×Int×(List Power)×Int×Int×(List Power)=>(zfg s.1 s.2.1 s.2.2.1 s.2.2.2.1 s.2.2.2.2.1 s.2.2.2.2.2.1 s.2.2.2.2.2.2.1 s.2.2.2.2.2.2.2.1 s.2.2.2.2.2.2.2.2).run) (x0,x1,x2,x3,x4,x5,x6,x7,x8)
def zaw9:Ann:=⟨[],[],[],zv64,[]⟩
def zaxa:=EndD.mk (LQ.v zo (LQ.v zo (LQ.k (LQ.c (.own 0)) (LQ.v intP (LQ.v intP (LQ.v intP (LQ.v zo (LQ.v intP (LQ.v intP (Par.q zo)))))))))) ⟨[0,1,5,6,7,10,16,17,18],[.pub 0,.nilsl 0 (.powers []),.pub 1,.nilsl 1 (.powers []),.nilown 5 83 (.powers []),.pub 16,.nilsl 16 (.powers [])]⟩ [.rows 83]
def zan9:=EndD.mk (LQ.v zo (LQ.v zo (LQ.k (LQ.c (.own 0)) (LQ.v intP (LQ.v intP (LQ.v intP (Par.q zo))))))) ⟨[0,1,5,6,7,10],[.pub 0,.nilsl 0 (.powers []),.pub 1,.nilsl 1 (.powers []),.nilown 5 83 (.powers [])]⟩ [.rows 83]
def zar6:St→Option LR:=L1 39 5 0 zaxa (.exit 2) zan9 (u9 zfg)
def zs64a:=sub (fb Tryz.f76) [0,1,0,1,1,0,0,1,1,0,0,1,0,1,1]
theorem zaxb:zq (zy64).env 0 zs64a zar6 :=
 zgy (A:=zaw9) zh64 fM trivial (k:=zca zs64a) (by kernel_rfl) rfl (by rintro ⟨x0,x1,x2,x3,x4,x5,x6,x7,x8⟩;kernel_rfl)
def zfh (x0 x1:(List Power)) (x2:Int) (x3:(List Power)): Tr (((List Power)×(List Power)×Int×(List Power))⊕((List Power))) :=
 (.ite (decide (x2 < 6))
  (.bind (zi4 x0 x2) fun v1 =>
  (.bind (zjy x0 x1 x2 v1 x2 x1 ((x1.length:Nat):Int) 0 x3) fun v2 =>
  (.ite (decide (v2.2.2.2.1 > 0))
   (.guard ((Sl.len (.powers v2.2.2.2.2.2)+Sl.len (.powers [(⟨v2.2.2.1,v2.2.2.2.1⟩:Power)]))*16≤140737488355328)
   (.leaf (.inl (v2.1,v2.2.1,i64.wrap (v2.2.2.2.2.1+1),v2.2.2.2.2.2++[(⟨v2.2.2.1,v2.2.2.2.1⟩:Power)]))))
   (.leaf (.inl (v2.1,v2.2.1,i64.wrap (v2.2.2.2.2.1+1),v2.2.2.2.2.2))))))
  (.leaf (.inr x3)))
def zjz (x0 x1:(List Power)) (x2:Int) (x3:(List Power)):=zde (fun s:(List Power)×(List Power)×Int×(List Power)=>(zfh s.1 s.2.1 s.2.2.1 s.2.2.2).run) (x0,x1,x2,x3)
def zaxc:Ann:=⟨[([0,1,0,1,1,0,0,1,1,0,0,1,0,1,1],zar6)],[],[],zv64,[]⟩
def zaxd:=EndD.mk (LQ.v zo (LQ.v zo (LQ.k (LQ.c (.own 0)) (LQ.v intP (Par.q zo))))) ⟨[0,1,5,10],[.pub 0,.nilsl 0 (.powers []),.pub 1,.nilsl 1 (.powers []),.nilown 5 83 (.powers [])]⟩ [.rows 83]
def zaoa:=EndD.mk (LQ.k (LQ.c (.own 0)) (Par.q zo)) ⟨[5],[.nilown 5 83 (.powers [])]⟩ [.rows 83]
def zar7:St→Option LR:=L1 39 5 0 zaxd (.exit 0) zaoa (u4 zfh)
def zs64b:=sub (fb Tryz.f76) [0,1,0,1,1]
theorem zaxe:zq (zy64).env 0 zs64b zar7 :=
 zgy (A:=zaxc) zh64 fM ⟨zaxb,trivial⟩ (k:=zca zs64b) (by kernel_rfl) rfl (by rintro ⟨x0,x1,x2,x3⟩;kernel_rfl)
def zq7 (a0 a1:(List Power)): Tr ((List Power)) :=
 (.bind (zjz a0 a1 0 []) fun v3 =>
 (.leaf v3))
def zpa (a0 a1:(List Power)):=(zq7 a0 a1).run
def zw2:SpecT:=zt 0 (LQ.v zo (Par.q zo)) 2 [] (u2 zq7) default (Par.q zo) 1 []
theorem z28:zg Tryz.prog 76 (zw2).spec :=
 sK (A:=⟨[([0,1,0,1,1],zar7)],[],[],zv64,[]⟩) zh64 fM Tryz.func76 (c:=(fb Tryz.f76)) (by kernel_rfl) (Lc:=0) ⟨zaxe,trivial⟩ _ _ 5 _ _ _ _ _ _ [.pub 4] (by rintro ⟨a0,a1⟩;kernel_rfl)
def zv65:List (List Nat):=[[0],[0,3],[3,6,7,8],[3,6,7,8,9],[3,5,6,7,8],[3,6,7,8],[3,6,7,8],[2]]
def zhh (x0:Int) (x1:(List Power)) (x2 x3:Int): Tr ((Int×(List Power)×Int×Int)⊕(Int)) :=
 (.ite (decide (x3 < x2))
  (.guard ((0:Int)≤x3∧x3 < ((Sl.len (.powers x1):Nat):Int))
  (.leaf (.inl (i64.wrap (x0+((x1.getD x3.toNat default).N)),x1,x2,i64.wrap (x3+1)))))
  (.leaf (.inr x0)))
def zm7 (x0:Int) (x1:(List Power)) (x2 x3:Int):=zde (fun s:Int×(List Power)×Int×Int=>(zhh s.1 s.2.1 s.2.2.1 s.2.2.2).run) (x0,x1,x2,x3)
def zaxf:Ann:=⟨[],[],[],zv65,[]⟩
def zaxg:=EndD.mk (LQ.v intP (LQ.v zo (LQ.v intP (Par.q intP)))) ⟨[3,6,7,8],[.pub 6,.nilsl 6 (.powers [])]⟩ []
def zaob:=EndD.mk (Par.q intP) ⟨[3],[]⟩ []
def zar8:St→Option LR:=L1 18 3 0 zaxg (.exit 0) zaob (u4 zhh)
def zs65a:=sub (fb Tryz.f68) [0,1,0,1,1]
theorem zaxh:zq (zyN).env 0 zs65a zar8 :=
 zgy (A:=zaxf) zhN fM trivial (k:=zca zs65a) (by kernel_rfl) rfl (by rintro ⟨x0,x1,x2,x3⟩;kernel_rfl)
def zvk (a0:(List Power)): Tr (Int) :=
 (.bind (zm7 0 a0 ((a0.length:Nat):Int) 0) fun v1 =>
 (.leaf v1))
def zkx (a0:(List Power)):=(zvk a0).run
def z04:SpecT:=zt 0 (Par.q zo) 1 [] zvk default (Par.q intP) 1 []
theorem z70:zg Tryz.prog 68 (z04).spec :=
 sK (A:=⟨[([0,1,0,1,1],zar8)],[],[],zv65,[]⟩) zhN fM Tryz.func68 (c:=(fb Tryz.f68)) (by kernel_rfl) (Lc:=0) ⟨zaxh,trivial⟩ _ _ 3 _ _ _ _ _ _ [] (by rintro a0;kernel_rfl)
def zv66:List (List Nat):=[[1],[1,3],[3,8,9],[3,8,9,10],[3,4,5,8,9],[3,4,5,6,8,9],[3,4,6,8,9,22],[3,8,9],[3,8,9],[3],[3],[3],[2]]
noncomputable def zy66:EnvT:=⟨Tryz.prog,zad [(108,F_sort_SliceStable),(110,F_sort_Slice)]⟩
theorem zh66:(zy66).Ok:=zf ⟨zu0,z5g,trivial⟩
def zhi (x0:(A6 zh)) (x1:Int) (x2:(List Power)): Tr (((A6 zh)×Int×(List Power))⊕((List Power))) :=
 (.ite (decide (x1 < 6))
  (.guard ((0:Int)≤x1∧(x1:Int) < 6)
  (.guard ((100:Int)≠0)
  (.ite ((!(A6.get ⟨x0.x0.Jailed,x0.x1.Jailed,x0.x2.Jailed,x0.x3.Jailed,x0.x4.Jailed,x0.x5.Jailed⟩ x1))&&(decide ((i64.wrap (Int.tdiv (A6.get ⟨x0.x0.Tokens,x0.x1.Tokens,x0.x2.Tokens,x0.x3.Tokens,x0.x4.Tokens,x0.x5.Tokens⟩ x1) 100)) > 0)))
   (.guard ((Sl.len (.powers x2)+Sl.len (.powers [(⟨x1,i64.wrap (Int.tdiv (A6.get ⟨x0.x0.Tokens,x0.x1.Tokens,x0.x2.Tokens,x0.x3.Tokens,x0.x4.Tokens,x0.x5.Tokens⟩ x1) 100)⟩:Power)]))*16≤140737488355328)
   (.leaf (.inl (x0,i64.wrap (x1+1),x2++[(⟨x1,i64.wrap (Int.tdiv (A6.get ⟨x0.x0.Tokens,x0.x1.Tokens,x0.x2.Tokens,x0.x3.Tokens,x0.x4.Tokens,x0.x5.Tokens⟩ x1) 100)⟩:Power)]))))
   (.leaf (.inl (x0,i64.wrap (x1+1),x2))))))
  (.leaf (.inr x2)))
def zm8 (x0:(A6 zh)) (x1:Int) (x2:(List Power)):=zde (fun s:(A6 zh)×Int×(List Power)=>(zhi s.1 s.2.1 s.2.2).run) (x0,x1,x2)
def zaxi:Ann:=⟨[],[],[],zv66,[]⟩
def zaxj:=EndD.mk (LQ.kp 0 0 (LQ.seq (Par.q (Par.ofLP (a6L zie))) (LQ.v intP (LQ.k (LQ.c (.own 1)) (Par.q zo))))) ⟨[3,8,9],[.nilcell 3 0 83 (.powers [])]⟩ [.cells 44 1,.rows 83]
def zaoc:=EndD.mk (LQ.kp 0 0 (LQ.k (LQ.c (.own 1)) (Par.q zo))) ⟨[3],[.nilcell 3 0 83 (.powers [])]⟩ [.cells 44 1,.rows 83]
def zar9:St→Option LR:=L1 44 7 0 zaxj (.exit 0) zaoc (u3 zhi)
def zs66a:=sub (fb Tryz.f71) [0,1,0,1,1]
theorem zaxk:zq (zy66).env 0 zs66a zar9 :=
 zgy (A:=zaxi) zh66 fM trivial (k:=zca zs66a) (by kernel_rfl) rfl (by rintro ⟨x0,x1,x2⟩;kernel_rfl)
def zvl (a0:Stake): Tr ((List Power)) :=
 (.bind (zm8 (⟨(⟨a0.Validators.Tokens.x0,a0.Validators.Shares.x0,a0.Validators.Lost.x0,a0.Validators.Jailed.x0,a0.Validators.Dead.x0⟩:zh),(⟨a0.Validators.Tokens.x1,a0.Validators.Shares.x1,a0.Validators.Lost.x1,a0.Validators.Jailed.x1,a0.Validators.Dead.x1⟩:zh),(⟨a0.Validators.Tokens.x2,a0.Validators.Shares.x2,a0.Validators.Lost.x2,a0.Validators.Jailed.x2,a0.Validators.Dead.x2⟩:zh),(⟨a0.Validators.Tokens.x3,a0.Validators.Shares.x3,a0.Validators.Lost.x3,a0.Validators.Jailed.x3,a0.Validators.Dead.x3⟩:zh),(⟨a0.Validators.Tokens.x4,a0.Validators.Shares.x4,a0.Validators.Lost.x4,a0.Validators.Jailed.x4,a0.Validators.Dead.x4⟩:zh),(⟨a0.Validators.Tokens.x5,a0.Validators.Shares.x5,a0.Validators.Lost.x5,a0.Validators.Jailed.x5,a0.Validators.Dead.x5⟩:zh)⟩:(A6 zh)) 0 []) fun v1 =>
 (.bind (zmt v1) fun v2 =>
 (.guard ((0:Int)≤(if 4 < ((v2.length:Nat):Int) then 4 else ((v2.length:Nat):Int))∧(if 4 < ((v2.length:Nat):Int) then 4 else ((v2.length:Nat):Int))≤((Sl.len (.powers v2):Nat):Int))
 (.bind (zwe ((v2.drop 0).take ((if 4 < ((v2.length:Nat):Int) then 4 else ((v2.length:Nat):Int)).toNat - 0))) fun v3 =>
 (.leaf v3)))))
def zsu (a0:Stake):=(zvl a0).run
def z05:SpecT:=zt 0 (Par.q (Par.ofLP stakeL)) 1 [] zvl default (Par.q zo) 1 []
theorem z71:zg Tryz.prog 71 (z05).spec :=
 sK (A:=⟨[([0,1,0,1,1],zar9)],[],[],zv66,[]⟩) zh66 fM Tryz.func71 (c:=(fb Tryz.f71)) (by kernel_rfl) (Lc:=0) ⟨zaxk,trivial⟩ _ _ 7 _ _ _ _ _ _ [.pub 2] (by rintro a0;kernel_rfl)
end
