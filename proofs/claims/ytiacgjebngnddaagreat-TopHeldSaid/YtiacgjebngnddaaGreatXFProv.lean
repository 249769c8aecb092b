/-
  The functions, each by its tree.
-/
import Derived.Test.YtiacgjebngnddaaGreatXAbC
import Derived.Test.YtiacgjebngnddaaGreatXAbClear
import Derived.Test.YtiacgjebngnddaaGreatXAbInsert
import Derived.Test.YtiacgjebngnddaaGreatXFBank
import Derived.Test.YtiacgjebngnddaaGreatXFCodec
import Derived.Test.YtiacgjebngnddaaGreatXFLine
import Derived.Test.YtiacgjebngnddaaGreatXFRatio
import Derived.Test.YtiacgjebngnddaaGreatXFStakeA
import Derived.Test.YtiacgjebngnddaaGreatXFStakeB
import Derived.Test.YtiacgjebngnddaaGreatXFacts
namespace Go.Proofs.YtiacgjebngnddaaGreat.Ab
open Go Go.RowKit
open Go.IntKind (i64 u64)
set_option maxRecDepth 100000
set_option linter.unusedVariables false
set_option linter.unusedSimpArgs false
noncomputable section
noncomputable def zy67:EnvT:=⟨Tryz.prog,zad [(54,z02),(55,zvj)]⟩
theorem zh67:(zy67).Ok:=ze ⟨z7r,zys,trivial⟩
def zpb  : Tr (za) :=
 (.bind (zso) fun v1 =>
 (.bind (zof 0 0) fun v2 =>
 (.leaf (⟨0,0,v1,[],(default:Links),v2,[]⟩:za))))
def zni  := (zpb ).run
def zun:SpecT:=zt 0 LQ.nil 0 [] (fun s=>zpb ) default (Par.q (Par.ofLP providerL)) 1 []
theorem z08:zf Tryz.prog 36 (zun).spec :=
 sK (A:=⟨[],[],[],[[0],[0]],[]⟩) zh67 fM Tryz.func36 (c:=(fb Tryz.f36)) (by kernel_rfl) (Lc:=0) trivial _ _ 3 _ _ _ _ _ _ [.pubB 0] (by rintro _;kernel_rfl)
def zv68:List (List Nat):=[[0],[0,5,6,7],[0,5,6,7,8],[0,3,4,5,6,7],[0,5,6,7,44],[2],[0,5,6,7],[2]]
def zgt (x0 x1:(List Power)) (x2 x3:Int): Tr (((List Power)×(List Power)×Int×Int)⊕((Bool)⊕(Unit))) :=
 (.ite (decide (x3 < x2))
  (.guard ((0:Int)≤x3∧x3 < ((Sl.len (.powers x1):Nat):Int))
  (.guard (((decide (x3 > 0))=true→(((decide (((x1.getD x3.toNat default).V) < 0))||(decide (((x1.getD x3.toNat default).V)≥6)))=false→((0:Int)≤(i64.wrap (x3 - 1))∧(i64.wrap (x3 - 1)) < ((Sl.len (.powers x0):Nat):Int))∧True)))
  (.ite (((((decide (((x1.getD x3.toNat default).V) < 0))||(decide (((x1.getD x3.toNat default).V)≥6)))||((decide (x3 > 0))&&(decide (((x0.getD ((i64.wrap (x3 - 1)).toNat) default).V)≥((x1.getD x3.toNat default).V)))))||(decide (((x1.getD x3.toNat default).N) < 1)))||(decide (((x1.getD x3.toNat default).N) > 1125899906842624)))
   (.leaf (.inr (.inl false)))
   (.leaf (.inl (x0,x1,x2,i64.wrap (x3+1)))))))
  (.leaf (.inr (.inr ()))))
def zom (x0 x1:(List Power)) (x2 x3:Int):=zdv (fun s:(List Power)×(List Power)×Int×Int=>(zgt s.1 s.2.1 s.2.2.1 s.2.2.2).run) (x0,x1,x2,x3)
def zayc:Ann:=⟨[],[],[],zv68,[]⟩
def zayd:=EndD.mk (LQ.v zm (LQ.v zm (LQ.v intP (Par.q intP)))) ⟨[0,5,6,7],[.pub 0,.nilsl 0 (.powers []),.pub 5,.nilsl 5 (.powers [])]⟩ []
def zaof:=EndD.mk (Par.q boolP) ⟨[2],[]⟩ []
def zaog:EndD (Unit):=⟨LQ.nil,⟨[],[]⟩,[]⟩
def zase:St→Option LR:=L2 46 3 0 zayd .ret zaof (.exit 0) zaog (u4 zgt)
def zs68a:=sub (fb Tryz.f57) [0,1,0,1]
theorem zaye:zo (zyN).env 0 zs68a zase :=
 zpm (A:=zayc) zhN fM trivial (k:=zb5 zs68a) (by kernel_rfl) rfl rfl (by rintro ⟨x0,x1,x2,x3⟩;kernel_rfl)
def zpc (a0:(List Power)): Tr (Bool) :=
 (.two (zom a0 a0 ((a0.length:Nat):Int) 0) (fun v1 =>
  (.leaf v1)) (fun v2 =>
  (.leaf true)))
def zc9 (a0:(List Power)):=(zpc a0).run
def zuo:SpecT:=zt 0 (Par.q zm) 1 [] zpc default (Par.q boolP) 1 []
theorem z09:zf Tryz.prog 57 (zuo).spec :=
 sK (A:=⟨[([0,1,0,1],zase)],[],[],zv68,[]⟩) zhN fM Tryz.func57 (c:=(fb Tryz.f57)) (by kernel_rfl) (Lc:=0) ⟨zaye,trivial⟩ _ _ 3 _ _ _ _ _ _ [] (by rintro a0;kernel_rfl)
noncomputable def zy69:EnvT:=⟨Tryz.prog,zad [(29,zk3)]⟩
theorem zh69:(zy69).Ok:=ze ⟨zmk,trivial⟩
def zj7 (a0:Asked) (a1:za): Tr (Bool×za) :=
 (.guard ((((decide (a0.C < 0))||(decide (a0.C≥2)))=false→((0:Int)≤a0.C∧(a0.C:Int) < 2)∧True))
 (.guard (((((decide (a0.C < 0))||(decide (a0.C≥2)))||(!(a1.Links.On.get a0.C)))=false→((zfb a0.P).isSome=true)∧True))
 (.leaf (((((decide (a0.C < 0))||(decide (a0.C≥2)))||(!(a1.Links.On.get a0.C)))||(((zfb a0.P).getD default) != 0))||(a0.P.Kind==1),a1))))
def zja (a0:Asked) (a1:za):=(zj7 a0 a1).run
def zp4:SpecT:=zt 1 (LQ.v (Par.ofLP zafd) (LQ.kp 0 0 (LP.q providerL))) 2 [.cells 58 97] (u2 zj7) default (LQ.v boolP (LP.q providerL)) 1 [.cells 58 97]
theorem zxa:zf Tryz.prog 60 (zp4).spec :=
 sK (A:=⟨[],[],[],[[1,2],[3]],[]⟩) zh69 fM Tryz.func60 (c:=(fb Tryz.f60)) (by kernel_rfl) (Lc:=1) trivial _ _ 4 _ _ _ _ _ _ [.pubN 0] (by rintro ⟨a0,a1⟩;kernel_rfl)
def zv70:List (List Nat):=[[0,1],[0,1,7,8],[0,1,7,8,9],[0,1,5,7,8],[0,1,5,7,8,16],[4],[0,1,7,8],[4]]
noncomputable def zy70:EnvT:=⟨Tryz.prog,zad [(60,zp4)]⟩
theorem zh70:(zy70).Ok:=ze ⟨zxa,trivial⟩
def zaa (x0:(List Asked)) (x1 x2:Int) (x3:za): Tr (((List Asked)×Int×Int×za)⊕((Int×za)⊕(za))) :=
 (.ite (decide (x2 < x1))
  (.guard ((0:Int)≤x2∧x2 < ((Sl.len (.asked x0):Nat):Int))
  (.bind (zja (x0.getD x2.toNat default) x3) fun v1 =>
  (.ite (v1.1)
   (.leaf (.inr (.inl (x2,v1.2))))
   (.leaf (.inl (x0,x1,i64.wrap (x2+1),v1.2))))))
  (.leaf (.inr (.inr x3))))
def zdi (x0:(List Asked)) (x1 x2:Int) (x3:za):=zdv (fun s:(List Asked)×Int×Int×za=>(zaa s.1 s.2.1 s.2.2.1 s.2.2.2).run) (x0,x1,x2,x3)
def zayf:Ann:=⟨[],[],[],zv70,[]⟩
def zayg:=EndD.mk (LQ.v zeg (LQ.k (LQ.c (.fn 60 [.ptr 0 0])) (LQ.v intP (LQ.v intP (LP.q providerL))))) ⟨[0,1,7,8],[.pub 0,.nilsl 0 (.asked [])]⟩ [.cells 58 97]
def zaoh:=EndD.mk (LQ.v intP (LP.q providerL)) ⟨[4],[]⟩ [.cells 58 97]
def zaoi:=EndD.mk (LP.q providerL) ⟨[],[]⟩ [.cells 58 97]
def zasf:St→Option LR:=L2 19 3 1 zayg .ret zaoh (.exit 0) zaoi (u4 zaa)
def zs70a:=sub (fb Tryz.f92) [0,1,0,1]
theorem zayh:zo (zy70).env 1 zs70a zasf :=
 zpm (A:=zayf) zh70 fM trivial (k:=zb5 zs70a) (by kernel_rfl) rfl rfl (by rintro ⟨x0,x1,x2,x3⟩;kernel_rfl)
def za2 (a0:(List Asked)) (a1:za): Tr (Int×za) :=
 (.two (zdi a0 ((a0.length:Nat):Int) 0 a1) (fun v2 =>
  (.leaf (v2.1,v2.2))) (fun v3 =>
  (.leaf (-1,v3))))
def zb6 (a0:(List Asked)) (a1:za):=(za2 a0 a1).run
def zez:SpecT:=zt 1 (LQ.v zeg (LQ.k (LQ.c (.fn 60 [.ptr 0 0])) (LP.q providerL))) 2 [.cells 58 97] (u2 za2) default (LQ.v intP (LP.q providerL)) 1 [.cells 58 97]
theorem zj8:zf Tryz.prog 92 (zez).spec :=
 sK (A:=⟨[([0,1,0,1],zasf)],[],[],zv70,[]⟩) zh70 fM Tryz.func92 (c:=(fb Tryz.f92)) (by kernel_rfl) (Lc:=1) ⟨zayh,trivial⟩ _ _ 3 _ _ _ _ _ _ [.pubN 0] (by rintro ⟨a0,a1⟩;kernel_rfl)
noncomputable def zy71:EnvT:=⟨Tryz.prog,zad [(92,zez)]⟩
theorem zh71:(zy71).Ok:=ze ⟨zj8,trivial⟩
def zb7 (a0:(List Asked)) (a1:za): Tr (Bool×za) :=
 (.bind (zb6 a0 a1) fun v1 =>
 (.leaf (decide (v1.1≥0),v1.2)))
def zb1 (a0:(List Asked)) (a1:za):=(zb7 a0 a1).run
def zes:SpecT:=zt 1 (LQ.v zeg (LQ.k (LQ.c (.fn 60 [.ptr 0 0])) (LP.q providerL))) 2 [.cells 58 97] (u2 zb7) default (LQ.v boolP (LP.q providerL)) 1 [.cells 58 97]
theorem zjm:zf Tryz.prog 59 (zes).spec :=
 sK (A:=⟨[],[],[],[[0,1],[4]],[]⟩) zh71 fM Tryz.func59 (c:=(fb Tryz.f59)) (by kernel_rfl) (Lc:=1) trivial _ _ 3 _ _ _ _ _ _ [.pubN 0] (by rintro ⟨a0,a1⟩;kernel_rfl)
def zv72:List (List Nat):=[[1],[1,36],[2],[1,38,39],[1,38,39,40],[1,4,38,39],[1,4,38,39,71],[2],[1,4,38,39,73,74,75],[1,4,38,39,73,74,75,76],[1,4,5,6,38,39,73,74,75],[1,4,38,39,73,74,75,99],[2],[1,4,38,39,73,74,75],[1,38,39],[2]]
noncomputable def zy72:EnvT:=⟨Tryz.prog,zad [(56,zoh),(57,zuo),(58,zjz),(59,zes)]⟩
theorem zh72:(zy72).Ok:=ze ⟨zq7,z09,zk2,zjm,trivial⟩
def zf0 (x0:Links) (x1:Int) (x2:(List Int)) (x3 x4:Int) (x5:za) (x6:Link): Tr ((Links×Int×(List Int)×Int×Int×za×Link)⊕((Bool)⊕(Links×Int×za))) :=
 (.ite (decide (x4 < x3))
  (.guard ((0:Int)≤x4∧x4 < ((Sl.len (.ints x2):Nat):Int))
  (.guard (((decide (x4 > 0))=true→(((decide ((x2.getD x4.toNat 0) < 0))||(decide ((x2.getD x4.toNat 0)≥6)))=false→((0:Int)≤(i64.wrap (x4 - 1))∧(i64.wrap (x4 - 1)) < ((Sl.len (.ints x6.Done):Nat):Int))∧True)))
  (.ite (((decide ((x2.getD x4.toNat 0) < 0))||(decide ((x2.getD x4.toNat 0)≥6)))||((decide (x4 > 0))&&(decide ((x6.Done.getD ((i64.wrap (x4 - 1)).toNat) 0)≥(x2.getD x4.toNat 0)))))
   (.leaf (.inr (.inl false)))
   (.leaf (.inl (x0,x1,x2,x3,i64.wrap (x4+1),x5,x6))))))
  (.leaf (.inr (.inr (x0,x1,x5)))))
def znj (x0:Links) (x1:Int) (x2:(List Int)) (x3 x4:Int) (x5:za) (x6:Link):=zdv (fun s:Links×Int×(List Int)×Int×Int×za×Link=>(zf0 s.1 s.2.1 s.2.2.1 s.2.2.2.1 s.2.2.2.2.1 s.2.2.2.2.2.1 s.2.2.2.2.2.2).run) (x0,x1,x2,x3,x4,x5,x6)
def zayl:Ann:=⟨[],[],[],zv72,[]⟩
def zaym:=EndD.mk (LQ.kp 0 0 (LQ.kp 1 0 (LQ.v (Par.ofLP linksL) (LQ.v intP (LQ.v zf5 (LQ.v intP (LQ.v intP (LQ.seq (LP.q providerL) (LP.q zaqi))))))))) ⟨[1,4,38,39,73,74,75],[.pub 73,.nilsl 73 (.ints [])]⟩ [.cells 58 97,.cells 52 14]
def zaoj:=EndD.mk (Par.q boolP) ⟨[2],[]⟩ []
def zaok:=EndD.mk (LQ.kp 0 0 (LQ.v (Par.ofLP linksL) (LQ.v intP (LP.q providerL)))) ⟨[1,38,39],[]⟩ [.cells 58 97]
def zasg:St→Option LR:=L2 107 4 0 zaym .ret zaoj (.exit 2) zaok (u7 zf0)
def zs72a:=sub (fb Tryz.f40) [0,1,1,1,0,0,1,1,0,0,1,0,1,1]
theorem zayn:zo (zy72).env 0 zs72a zasg :=
 zpm (A:=zayl) zh72 fM trivial (k:=zb5 zs72a) (by kernel_rfl) rfl rfl (by rintro ⟨x0,x1,x2,x3,x4,x5,x6⟩;kernel_rfl)
def zcp (x0:Links) (x1:Int) (x2:za): Tr ((Links×Int×za)⊕((Bool)⊕(za))) :=
 (.ite (decide (x1 < 2))
  (.guard ((0:Int)≤x1∧(x1:Int) < 2)
  (.guard ((((((x0.On.get x1)&&(x0.Gone.get x1))||(decide ((x0.Base.get x1) < 0)))||(decide ((x0.Base.get x1) > x2.Height)))=false→((zc9 (x0.Told.get x1)).isSome=true)∧True))
  (.guard (((((((x0.On.get x1)&&(x0.Gone.get x1))||(decide ((x0.Base.get x1) < 0)))||(decide ((x0.Base.get x1) > x2.Height)))||(!((zc9 (x0.Told.get x1)).getD default)))=false→((zdy (⟨x0.Said.get x1,x0.Due.get x1,x0.Got.get x1,x0.Closed.get x1⟩:zgz)).isSome=true)∧True))
  (.ite ((((((x0.On.get x1)&&(x0.Gone.get x1))||(decide ((x0.Base.get x1) < 0)))||(decide ((x0.Base.get x1) > x2.Height)))||(!((zc9 (x0.Told.get x1)).getD default)))||(!((zdy (⟨x0.Said.get x1,x0.Due.get x1,x0.Got.get x1,x0.Closed.get x1⟩:zgz)).getD default)))
   (.leaf (.inr (.inl false)))
   (.two (znj x0 x1 (x0.Done.get x1) (((x0.Done.get x1).length:Nat):Int) 0 x2 (⟨x0.On.get x1,x0.Gone.get x1,x0.Base.get x1,x0.Told.get x1,x0.Fresh.get x1,x0.Done.get x1,(⟨x0.Said.get x1,x0.Due.get x1,x0.Got.get x1,x0.Closed.get x1⟩:zgz),(⟨x0.SHeight.get x1,x0.STime.get x1,x0.SSaid.get x1,x0.SGot.get x1⟩:Head)⟩:Link)) (fun v2 =>
    (.leaf (.inr (.inl v2)))) (fun v3 =>
    (.leaf (.inl (v3.1,i64.wrap (v3.2.1+1),v3.2.2)))))))))
  (.leaf (.inr (.inr x2))))
def zh0 (x0:Links) (x1:Int) (x2:za):=zdv (fun s:Links×Int×za=>(zcp s.1 s.2.1 s.2.2).run) (x0,x1,x2)
def zayo:Ann:=⟨[([0,1,1,1,0,0,1,1,0,0,1,0,1,1],zasg)],[],[],zv72,[]⟩
def zayp:=EndD.mk (LQ.kp 0 0 (LQ.v (Par.ofLP linksL) (LQ.v intP (LP.q providerL)))) ⟨[1,38,39],[]⟩ [.cells 58 97]
def zaol:=EndD.mk (Par.q boolP) ⟨[2],[]⟩ []
def zaom:=EndD.mk (LQ.kp 0 0 (LP.q providerL)) ⟨[1],[]⟩ [.cells 58 97]
def zash:St→Option LR:=L2 107 4 0 zayp .ret zaol (.exit 0) zaom (u3 zcp)
def zs72b:=sub (fb Tryz.f40) [0,1,0,1,1]
theorem zayq:zo (zy72).env 0 zs72b zash :=
 zpm (A:=zayo) zh72 fM ⟨zayn,trivial⟩ (k:=zb5 zs72b) (by kernel_rfl) rfl rfl (by rintro ⟨x0,x1,x2⟩;kernel_rfl)
def znk (a0:za): Tr (Bool) :=
 (.bind (zi2 a0.Stake) fun v1 =>
 (.guard (((((((!v1)||(decide (a0.Height < 0)))||(decide (a0.Height≥1099511627776)))||(decide (a0.Time < 0)))||(decide (a0.Time > 1099511627776)))=false→((zc9 a0.Set).isSome=true)∧True))
 (.ite ((((((!v1)||(decide (a0.Height < 0)))||(decide (a0.Height≥1099511627776)))||(decide (a0.Time < 0)))||(decide (a0.Time > 1099511627776)))||(!((zc9 a0.Set).getD default)))
  (.leaf false)
  (.two (zh0 a0.Links 0 a0) (fun v4 =>
   (.leaf v4)) (fun v5 =>
   (.bind (zb1 v5.Queue v5) fun v6 =>
   (.leaf (!v6.1))))))))
def zbb (a0:za):=(znk a0).run
def zcf:SpecT:=zt 0 (Par.q (Par.ofLP providerL)) 1 [] znk default (Par.q boolP) 1 []
theorem zcv:zf Tryz.prog 40 (zcf).spec :=
 sK (A:=⟨[([0,1,0,1,1],zash)],[],[],zv72,[]⟩) zh72 fM Tryz.func40 (c:=(fb Tryz.f40)) (by kernel_rfl) (Lc:=0) ⟨zayq,trivial⟩ _ _ 4 _ _ _ _ _ _ [] (by rintro a0;kernel_rfl)
noncomputable def zy73:EnvT:=⟨Tryz.prog,zad [(40,zcf),(41,zrs)]⟩
theorem zh73:(zy73).Ok:=ze ⟨zcv,zx6,trivial⟩
def zh1 (a0:za) (a1 a2 a3:Int): Tr (za×Int) :=
 (.bind (zbb a0) fun v1 =>
 (.ite (!v1)
  (.leaf (a0,2))
  (.bind (zj0 a0.Stake a1 a2 a3) fun v2 =>
  (.ite (v2.2 != 0)
   (.leaf (a0,v2.2))
   (.leaf ({ a0 with Stake:=v2.1 },0))))))
def zg2 (a0:za) (a1 a2 a3:Int):=(zh1 a0 a1 a2 a3).run
def znl:SpecT:=zt 0 (LQ.v (Par.ofLP providerL) (LQ.v intP (LQ.v intP (Par.q intP)))) 4 [] (u4 zh1) default (LQ.v (Par.ofLP providerL) (Par.q intP)) 2 []
theorem zt4:zf Tryz.prog 30 (znl).spec :=
 sK (A:=⟨[],[],[],[[1,2,3,4,8],[1,2,3,4,8,14],[8,9],[4,8,10,11],[4,8,10,11,26],[8,9],[4,8],[8,9]],[]⟩) zh73 fM Tryz.func30 (c:=(fb Tryz.f30)) (by kernel_rfl) (Lc:=0) trivial _ _ 5 _ _ _ _ _ _ [.pubB 8] (by rintro ⟨a0,a1,a2,a3⟩;kernel_rfl)
def zv74:List (List Nat):=[[1,2,3,4,5,10],[1,2,3,4,5,10,27],[10,11],[1,2,3,5,10,12],[1,2,3,5,10,12,35],[1,2,3,5,10,12,35,36],[1,2,3,5,10,12,13,35],[1,2,3,5,10,12,13,35,42],[1,2,3,5,10,12,35],[1,2,3,5,10,12,35],[5,10,14,15],[5,10,14,15,61],[10,11],[5,10],[5,10,66],[5,10,66,67],[5,10,16,66],[5,10,66],[5,10,66],[10,11]]
noncomputable def zy74:EnvT:=⟨Tryz.prog,zad [(40,zcf),(42,zoi)]⟩
theorem zh74:(zy74).Ok:=ze ⟨zcv,zvn,trivial⟩
def zat (x0 x1 x2 x3:Int) (x4 x5:za) (x6:Wait): Tr ((Int×Int×Int×Int×za×za×Wait)⊕(Int×Int×Int×za×za×Wait)) :=
 (.ite (decide (x3 < 2))
  (.guard ((0:Int)≤x3∧(x3:Int) < 2)
  (.ite (x4.Links.On.get x3)
   (.guard ((0:Int)≤x3∧(x3:Int) < 2)
   (.leaf (.inl (x0,x1,x2,i64.wrap (x3+1),x4,x5,{ (x6:Wait) with h0:=if x3=0 then i64.wrap (x4.Height+1) else x6.h0,h1:=if x3=1 then i64.wrap (x4.Height+1) else x6.h1 }))))
   (.leaf (.inl (x0,x1,x2,i64.wrap (x3+1),x4,x5,x6)))))
  (.leaf (.inr (x0,x1,x2,x4,x5,x6))))
def zea (x0 x1 x2 x3:Int) (x4 x5:za) (x6:Wait):=zdv (fun s:Int×Int×Int×Int×za×za×Wait=>(zat s.1 s.2.1 s.2.2.1 s.2.2.2.1 s.2.2.2.2.1 s.2.2.2.2.2.1 s.2.2.2.2.2.2).run) (x0,x1,x2,x3,x4,x5,x6)
def zayu:Ann:=⟨[],[],[],zv74,[]⟩
def zayv:=EndD.mk (LQ.v intP (LQ.v intP (LQ.v intP (LQ.kp 0 0 (LQ.kp 1 0 (LQ.kp 2 0 (LQ.v intP (LQ.seq (LP.q providerL) (LQ.seq (LP.q providerL) (LP.q zams)))))))))) ⟨[1,2,3,5,10,12,35],[]⟩ [.cells 58 97,.cells 58 97,.cells 78 8]
def zaon:=EndD.mk (LQ.v intP (LQ.v intP (LQ.v intP (LQ.kp 0 0 (LQ.kp 1 0 (LQ.kp 2 0 (LQ.seq (LP.q providerL) (LQ.seq (LP.q providerL) (LP.q zams))))))))) ⟨[1,2,3,5,10,12],[]⟩ [.cells 58 97,.cells 58 97,.cells 78 8]
def zasi:St→Option LR:=L1 87 6 0 zayv (.exit 0) zaon (u7 zat)
def zs74a:=sub (fb Tryz.f31) [0,1,0,1,1,1]
theorem zayw:zo (zy74).env 0 zs74a zasi :=
 zf4 (A:=zayu) zh74 fM trivial (k:=zb5 zs74a) (by kernel_rfl) rfl (by rintro ⟨x0,x1,x2,x3,x4,x5,x6⟩;kernel_rfl)
def zau (x0:Int) (x1 x2:za): Tr ((Int×za×za)⊕(za×za)) :=
 (.ite (decide (x0 < 2))
  (.guard ((0:Int)≤x0∧(x0:Int) < 2)
  (.guard (((x1.Links.Fresh.get x0)=false→((0:Int)≤x0∧(x0:Int) < 2)∧True))
  (.guard ((0:Int)≤x0∧(x0:Int) < 2)
  (.leaf (.inl (i64.wrap (x0+1),{ x1 with Links:={ x1.Links with Fresh:=(x1.Links.Fresh.set x0 ((x1.Links.Fresh.get x0)||(x1.Links.On.get x0))) } },x2))))))
  (.leaf (.inr (x1,x2))))
def zhl (x0:Int) (x1 x2:za):=zdv (fun s:Int×za×za=>(zau s.1 s.2.1 s.2.2).run) (x0,x1,x2)
def zayx:Ann:=⟨[],[],[],zv74,[]⟩
def zayy:=EndD.mk (LQ.kp 0 0 (LQ.kp 1 0 (LQ.v intP (LQ.seq (LP.q providerL) (LP.q providerL))))) ⟨[5,10,66],[]⟩ [.cells 58 97,.cells 58 97]
def zaoo:=EndD.mk (LQ.kp 0 0 (LQ.kp 1 0 (LQ.seq (LP.q providerL) (LP.q providerL)))) ⟨[5,10],[]⟩ [.cells 58 97,.cells 58 97]
def zasj:St→Option LR:=L1 87 6 0 zayy (.exit 2) zaoo (u3 zau)
def zs74b:=sub (fb Tryz.f31) [0,1,0,1,1,1,1,1,1,1]
theorem zayz:zo (zy74).env 0 zs74b zasj :=
 zf4 (A:=zayx) zh74 fM trivial (k:=zb5 zs74b) (by kernel_rfl) rfl (by rintro ⟨x0,x1,x2⟩;kernel_rfl)
def zgc (a0:za) (a1 a2 a3 a4:Int): Tr (za×Int) :=
 (.bind (zbb a0) fun v1 =>
 (.ite (((!v1)||(decide (a4 < 0)))||(decide (a4 > 1099511627776)))
  (.leaf (a0,2))
  (.bind (zea a1 a2 a3 0 a0 (default:za) (⟨0,0,0,0,i64.wrap (a0.Height+1),i64.wrap (a4+20),0,0⟩:Wait)) fun v2 =>
  (.bind (zhx v2.2.2.2.1.Stake v2.1 v2.2.1 v2.2.2.1 v2.2.2.2.2.2) fun v3 =>
  (.ite (v3.2 != 0)
   (.leaf (v2.2.2.2.1,v3.2))
   (.bind (zhl 0 ({ v2.2.2.2.1 with Stake:=v3.1 }) v2.2.2.2.2.1) fun v4 =>
   (.leaf (v4.1,0))))))))
def za4 (a0:za) (a1 a2 a3 a4:Int):=(zgc a0 a1 a2 a3 a4).run
def zk6:SpecT:=zt 0 (LQ.v (Par.ofLP providerL) (LQ.v intP (LQ.v intP (LQ.v intP (Par.q intP))))) 5 [] (u5 zgc) default (LQ.v (Par.ofLP providerL) (Par.q intP)) 2 []
theorem zr0:zf Tryz.prog 31 (zk6).spec :=
 sK (A:=⟨[([0,1,0,1,1,1],zasi),([0,1,0,1,1,1,1,1,1,1],zasj)],[],[],zv74,[]⟩) zh74 fM Tryz.func31 (c:=(fb Tryz.f31)) (by kernel_rfl) (Lc:=0) ⟨zayw,zayz,trivial⟩ _ _ 6 _ _ _ _ _ _ [.pubB 10] (by rintro ⟨a0,a1,a2,a3,a4⟩;kernel_rfl)
def zv75:List (List Nat):=[[1,2,4],[1,2,4,8],[4,5],[1,2,4,13],[4,5],[1,2,4,21],[4,5],[1,2,4,28],[4,5],[1,2,4,35],[4,5],[1,2,4],[1,2,4],[1,2,4,64,65],[1,2,4,64,65,66],[1,2,4,6,64,65],[1,2,4,7,64,65],[1,2,4,7,64,65,79],[1,2,4,64,65],[1,2,4,64,65],[1,2,4,64,65],[4,5]]
noncomputable def zy75:EnvT:=⟨Tryz.prog,zad [(40,zcf),(73,zdm),(64,zbj)]⟩
theorem zh75:(zy75).Ok:=ze ⟨zcv,zf7,zcm,trivial⟩
def zda (x0 x1 x2:Int) (x3 x4:za): Tr ((Int×Int×Int×za×za)⊕(za×za)) :=
 (.ite (decide (x2 < x1))
  (.guard ((0:Int)≤x2∧x2 < ((Sl.len (.waits x3.Stake.Waits):Nat):Int))
  (.ite (decide (((x3.Stake.Waits.getD x2.toNat default).Height) > x3.Height))
   (.guard ((0:Int)≤x0∧(x0:Int) < 2)
   (.guard ((0:Int)≤x0∧(x0:Int) < 2)
   (.leaf (.inl (x0,x1,i64.wrap (x2+1),{ x3 with Stake:={ x3.Stake with Waits:=x3.Stake.Waits.set x2.toNat ({ ((x3.Stake.Waits.getD x2.toNat default):Wait) with h0:=if x0=0 then (x3.Stake.Waits.getD x2.toNat default).Height else (x3.Stake.Waits.getD x2.toNat default).h0,h1:=if x0=1 then (x3.Stake.Waits.getD x2.toNat default).Height else (x3.Stake.Waits.getD x2.toNat default).h1 }) },Links:={ x3.Links with Fresh:=(x3.Links.Fresh.set x0 true) } },x4)))))
   (.leaf (.inl (x0,x1,i64.wrap (x2+1),x3,x4)))))
  (.leaf (.inr (x3,x4))))
def zg3 (x0 x1 x2:Int) (x3 x4:za):=zdv (fun s:Int×Int×Int×za×za=>(zda s.1 s.2.1 s.2.2.1 s.2.2.2.1 s.2.2.2.2).run) (x0,x1,x2,x3,x4)
def zay0:Ann:=⟨[],[],[],zv75,[]⟩
def zay1:=EndD.mk (LQ.map (LQ.v intP (LQ.kp 0 0 (LQ.kp 1 0 (LQ.v intP (LQ.v intP (LQ.v intP (LQ.v intP (LQ.seq (LP.q bankL) (LQ.seq (LP.q validatorsL) (LQ.seq (LP.q (a4L (a6L (LP.one intP)))) (LQ.k (LQ.c (.own 2)) (LQ.v intP (LQ.v zm (LQ.seq (LP.q linksL) (LQ.seq (LP.q meterL) (LQ.v zeg (LQ.seq (LP.q providerL) (Par.q ziq)))))))))))))))))) (fun x=>(x.1,x.2.1,x.2.2.1,(⟨x.2.2.2.1,(d4 x).1,(⟨(d4 x).2.1,(d4 x).2.2.1,(d4 x).2.2.2.1,(d12 x).2.2,(d8 x).1⟩:Stake),(d8 x).2.1,(d8 x).2.2.1,(d8 x).2.2.2.1,(d12 x).1⟩:za),(d12 x).2.1)) (fun y=>(y.1,y.2.1,y.2.2.1,y.2.2.2.1.Height,y.2.2.2.1.Time,y.2.2.2.1.Stake.Bank,y.2.2.2.1.Stake.Validators,y.2.2.2.1.Stake.Shares,y.2.2.2.1.Stake.Next,y.2.2.2.1.Set,y.2.2.2.1.Links,y.2.2.2.1.Meter,y.2.2.2.1.Queue,(d4 y),y.2.2.2.1.Stake.Waits)) (fun _=>rfl)) ⟨[1,2,4,64,65],[.nilcell 2 63 78 (.waits [])]⟩ [.cells 58 97,.cells 58 97,.rows 78]
def zaop:=EndD.mk (LQ.map (LQ.kp 0 0 (LQ.kp 1 0 (LQ.v intP (LQ.v intP (LQ.seq (LP.q bankL) (LQ.seq (LP.q validatorsL) (LQ.seq (LP.q (a4L (a6L (LP.one intP)))) (LQ.k (LQ.c (.own 2)) (LQ.v intP (LQ.v zm (LQ.seq (LP.q linksL) (LQ.seq (LP.q meterL) (LQ.v zeg (LQ.seq (LP.q providerL) (Par.q ziq))))))))))))))) (fun x=>((⟨x.1,x.2.1,(⟨x.2.2.1,x.2.2.2.1,(d4 x).1,(d8 x).2.2.2,(d4 x).2.1⟩:Stake),(d4 x).2.2.1,(d4 x).2.2.2.1,(d8 x).1,(d8 x).2.1⟩:za),(d8 x).2.2.1)) (fun y=>(y.1.Height,y.1.Time,y.1.Stake.Bank,y.1.Stake.Validators,y.1.Stake.Shares,y.1.Stake.Next,y.1.Set,y.1.Links,y.1.Meter,y.1.Queue,y.2,y.1.Stake.Waits)) (fun _=>rfl)) ⟨[2,4],[.nilcell 2 63 78 (.waits [])]⟩ [.cells 58 97,.cells 58 97,.rows 78]
def zask:St→Option LR:=L1 95 5 0 zay1 (.exit 1) zaop (u5 zda)
def zs75a:=sub (fb Tryz.f47) [0,1,0,1,1,1,1]
theorem zay2:zo (zy75).env 0 zs75a zask :=
 zf4 (A:=zay0) zh75 fM trivial (k:=zb5 zs75a) (by kernel_rfl) rfl (by rintro ⟨x0,x1,x2,x3,x4⟩;kernel_rfl)
def zlr (a0:za) (a1:Int): Tr (za×Int) :=
 (.bind (zbb a0) fun v1 =>
 (.ite (!v1)
  (.leaf (a0,2))
  (.ite ((decide (a1 < 0))||(decide (a1≥2)))
   (.leaf (a0,4))
   (.guard ((0:Int)≤a1∧(a1:Int) < 2)
   (.ite (a0.Links.Gone.get a1)
    (.leaf (a0,11))
    (.guard ((0:Int)≤a1∧(a1:Int) < 2)
    (.ite (a0.Links.On.get a1)
     (.leaf (a0,5))
     (.ite ((decide (a0.Height < 1))||(((a0.Set.length:Nat):Int)==0))
      (.leaf (a0,13))
      (.guard ((zaj a0.Set).isSome=true)
      (.guard ((0:Int)≤a1∧(a1:Int) < 2)
      (.bind (zq a0.Stake.Waits) fun v2 =>
      (.bind (zg3 a1 ((v2.length:Nat):Int) 0 ({ a0 with Stake:={ a0.Stake with Waits:=v2 },Links:=(⟨(a0.Links.On.set a1 true),(a0.Links.Gone.set a1 false),(a0.Links.Base.set a1 a0.Height),(a0.Links.Told.set a1 ((zaj a0.Set).getD default)),(a0.Links.Fresh.set a1 false),(a0.Links.Done.set a1 []),(a0.Links.Said.set a1 []),(a0.Links.Due.set a1 []),(a0.Links.Got.set a1 0),(a0.Links.Closed.set a1 false),(a0.Links.SHeight.set a1 0),(a0.Links.STime.set a1 0),(a0.Links.SSaid.set a1 0),(a0.Links.SGot.set a1 0)⟩:Links) }) (default:za)) fun v3 =>
      (.leaf (v3.1,0))))))))))))))
def zak (a0:za) (a1:Int):=(zlr a0 a1).run
def zrw:SpecT:=zt 0 (LQ.v (Par.ofLP providerL) (Par.q intP)) 2 [] (u2 zlr) default (LQ.v (Par.ofLP providerL) (Par.q intP)) 2 []
theorem zx8:zf Tryz.prog 47 (zrw).spec :=
 sK (A:=⟨[([0,1,0,1,1,1,1],zask)],[],[],zv75,[]⟩) zh75 fM Tryz.func47 (c:=(fb Tryz.f47)) (by kernel_rfl) (Lc:=0) ⟨zay2,trivial⟩ _ _ 5 _ _ _ _ _ _ [.pubB 4] (by rintro ⟨a0,a1⟩;kernel_rfl)
def zh2 (a0:Asked) (a1:Int): Tr (Bool×Int) :=
 (.leaf (a0.C==a1,a1))
def zee (a0:Asked) (a1:Int):=(zh2 a0 a1).run
def zh7:SpecT:=zt 1 (LQ.v (Par.ofLP zafd) (LQ.kp 0 0 (Par.q intP))) 2 [.cells 3 1] (u2 zh2) default (LQ.v boolP (Par.q intP)) 1 [.cells 3 1]
theorem zl1:zf Tryz.prog 121 (zh7).spec :=
 sK (A:=⟨[],[],[],[[1,2],[3]],[]⟩) zhN fM Tryz.func121 (c:=(fb Tryz.f121)) (by kernel_rfl) (Lc:=1) trivial _ _ 4 _ _ _ _ _ _ [] (by rintro ⟨a0,a1⟩;kernel_rfl)
def zv77:List (List Nat):=[[0,1],[0,1,7,8],[0,1,7,8,9],[0,1,5,7,8],[0,1,5,7,8,16],[4],[0,1,7,8],[4]]
noncomputable def zy77:EnvT:=⟨Tryz.prog,zad [(121,zh7)]⟩
theorem zh77:(zy77).Ok:=ze ⟨zl1,trivial⟩
def zab (x0 x1 x2:Int) (x3:(List Asked)): Tr ((Int×Int×Int×(List Asked))⊕((Int×Int×(List Asked))⊕(Int×(List Asked)))) :=
 (.ite (decide (x1 < x0))
  (.guard ((0:Int)≤x1∧x1 < ((Sl.len (.asked x3):Nat):Int))
  (.bind (zee (x3.getD x1.toNat default) x2) fun v1 =>
  (.ite (v1.1)
   (.leaf (.inr (.inl (x1,v1.2,x3))))
   (.leaf (.inl (x0,i64.wrap (x1+1),v1.2,x3))))))
  (.leaf (.inr (.inr (x2,x3)))))
def zbi (x0 x1 x2:Int) (x3:(List Asked)):=zdv (fun s:Int×Int×Int×(List Asked)=>(zab s.1 s.2.1 s.2.2.1 s.2.2.2).run) (x0,x1,x2,x3)
def zay3:Ann:=⟨[],[],[],zv77,[]⟩
def zay4:=EndD.mk (LQ.k (LQ.c (.own 1)) (LQ.k (LQ.c (.fn 121 [.ptr 0 0])) (LQ.v intP (LQ.v intP (LQ.v intP (Par.q zeg)))))) ⟨[0,1,7,8],[.nilown 0 90 (.asked [])]⟩ [.cells 3 1,.rows 90]
def zaoq:=EndD.mk (LQ.v intP (LQ.v intP (Par.q zeg))) ⟨[4],[]⟩ [.cells 3 1,.rows 90]
def zaor:=EndD.mk (LQ.v intP (Par.q zeg)) ⟨[],[]⟩ [.cells 3 1,.rows 90]
def zasl:St→Option LR:=L2 19 4 2 zay4 .ret zaoq (.exit 0) zaor (u4 zab)
def zs77a:=sub (fb Tryz.f92) [0,1,0,1]
theorem zay5:zo (zy77).env 2 zs77a zasl :=
 zpm (A:=zay3) zh77 fM trivial (k:=zb5 zs77a) (by kernel_rfl) rfl rfl (by rintro ⟨x0,x1,x2,x3⟩;kernel_rfl)
def zcg (a0:Int) (a1:(List Asked)): Tr (Int×Int×(List Asked)) :=
 (.two (zbi ((a1.length:Nat):Int) 0 a0 a1) (fun v2 =>
  (.leaf (v2.1,v2.2.1,v2.2.2))) (fun v3 =>
  (.leaf (-1,v3.1,v3.2))))
def zax (a0:Int) (a1:(List Asked)):=(zcg a0 a1).run
def ze0:SpecT:=zt 2 (LQ.k (LQ.c (.own 1)) (LQ.k (LQ.c (.fn 121 [.ptr 0 0])) (LQ.v intP (Par.q zeg)))) 2 [.cells 3 1,.rows 90] (u2 zcg) default (LQ.v intP (LQ.v intP (Par.q zeg))) 1 [.cells 3 1,.rows 90]
theorem zj9:zf Tryz.prog 92 (ze0).spec :=
 sK (A:=⟨[([0,1,0,1],zasl)],[],[],zv77,[]⟩) zh77 fM Tryz.func92 (c:=(fb Tryz.f92)) (by kernel_rfl) (Lc:=2) ⟨zay5,trivial⟩ _ _ 4 _ _ _ _ _ _ [] (by rintro ⟨a0,a1⟩;kernel_rfl)
def zv78:List (List Nat):=[[0,1],[0,1,5],[0,1,5,12],[4],[0,1,5,6],[0,1,5,6,19],[0,1,5,6],[0,1,5,6,7],[0,1,5,6,7,29],[0,1,5,6],[0,1,5,6],[0,5],[4]]
noncomputable def zy78:EnvT:=⟨Tryz.prog,zad [(92,ze0),(121,zh7)]⟩
theorem zh78:(zy78).Ok:=ze ⟨zj9,zl1,trivial⟩
def zasm:St→Option LR:=clearL 0 5 36 37 38
def zs78A:=sub (fb Tryz.f120) [0,1,1,1,1]
theorem zay7:zo (zy78).env 1 zs78A zasm :=
 zai7 (T:=56) (E:=90) (z:=(zh Tryz.prog (zeroValue 90)).getD undef) (by kernel_rfl) (by kernel_rfl) (by kernel_rfl) (by kernel_rfl) (by decide) (by decide) (by kernel_rfl) (by kernel_rfl) (by kernel_rfl) (by kernel_rfl)
def zaf (x0 x1 x2:Int) (x3:(List Asked)): Tr ((Int×Int×Int×(List Asked))⊕(Int×Int×(List Asked))) :=
 (.ite (decide (x1 < ((x3.length:Nat):Int)))
  (.guard ((0:Int)≤x1∧x1 < ((Sl.len (.asked x3):Nat):Int))
  (.bind (zee (x3.getD x1.toNat default) x2) fun v2 =>
  (.ite (!v2.1)
   (.guard ((0:Int)≤x0∧x0 < ((Sl.len (.asked x3):Nat):Int))
   (.leaf (.inl (i64.wrap (x0+1),i64.wrap (x1+1),v2.2,x3.set x0.toNat (x3.getD x1.toNat default)))))
   (.leaf (.inl (x0,i64.wrap (x1+1),v2.2,x3))))))
  (.leaf (.inr (x0,x2,x3))))
def zbn (x0 x1 x2:Int) (x3:(List Asked)):=zdv (fun s:Int×Int×Int×(List Asked)=>(zaf s.1 s.2.1 s.2.2.1 s.2.2.2).run) (x0,x1,x2,x3)
def zay8:Ann:=⟨[],[],[],zv78,[]⟩
def zay9:=EndD.mk (LQ.k (LQ.c (.own 1)) (LQ.k (LQ.c (.fn 121 [.ptr 0 0])) (LQ.v intP (LQ.v intP (LQ.v intP (Par.q zeg)))))) ⟨[0,1,5,6],[.nilown 0 90 (.asked [])]⟩ [.cells 3 1,.rows 90]
def zaos:=EndD.mk (LQ.k (LQ.c (.own 1)) (LQ.v intP (LQ.v intP (Par.q zeg)))) ⟨[0,5],[.nilown 0 90 (.asked [])]⟩ [.cells 3 1,.rows 90]
def zasn:St→Option LR:=L1 42 5 1 zay9 (.exit 0) zaos (u4 zaf)
def zs78a:=sub (fb Tryz.f120) [0,1,0,1,1,1]
theorem zaza:zo (zy78).env 1 zs78a zasn :=
 zf4 (A:=zay8) zh78 fM trivial (k:=zb5 zs78a) (by kernel_rfl) rfl (by rintro ⟨x0,x1,x2,x3⟩;kernel_rfl)
def zcw (a0:Int) (a1:(List Asked)): Tr (Int×(List Asked)) :=
 (.bind (zax a0 a1) fun v1 =>
 (.ite (v1.1==(-1))
  (.leaf (v1.2.1,v1.2.2))
  (.bind (zbn v1.1 (i64.wrap (v1.1+1)) v1.2.1 v1.2.2) fun v3 =>
  (.bind (z62 v3.2.2 v3.1) fun v4 =>
  (.guard ((0:Int)≤v3.1∧v3.1≤((Sl.len (.asked v4):Nat):Int))
  (.leaf (v3.2.1,((v4.drop 0).take (v3.1.toNat - 0)))))))))
def zch (a0:Int) (a1:(List Asked)):=(zcw a0 a1).run
def zfk:SpecT:=zt 1 (LQ.k (LQ.c (.own 1)) (LQ.k (LQ.c (.fn 121 [.ptr 0 0])) (LQ.v intP (Par.q zeg)))) 2 [.cells 3 1,.rows 90] (u2 zcw) default (LQ.k (LQ.c (.own 1)) (LQ.v intP (Par.q zeg))) 1 [.cells 3 1,.rows 90]
theorem zk7:zf Tryz.prog 120 (zfk).spec :=
 sK (A:=⟨[([0,1,0,1,1,1],zasn),([0,1,1,1,1],zasm)],[],[],zv78,[]⟩) zh78 fM Tryz.func120 (c:=(fb Tryz.f120)) (by kernel_rfl) (Lc:=1) ⟨zaza,zay7,trivial⟩ _ _ 5 _ _ _ _ _ _ [.nilown 4 90 (.asked [])] (by rintro ⟨a0,a1⟩;kernel_rfl)
noncomputable def zy79:EnvT:=⟨Tryz.prog,zad [(40,zcf),(101,zm8),(118,zej),(120,zfk)]⟩
theorem zh79:(zy79).Ok:=ze ⟨zcv,zrt,zhf,zk7,trivial⟩
def zka (a0:za) (a1:Int): Tr (za) :=
 (.bind (zbb a0) fun v1 =>
 (.guard (((((!v1)||(decide (a1 < 0)))||(decide (a1≥2)))=false→((0:Int)≤a1∧(a1:Int) < 2)∧True))
 (.ite ((((!v1)||(decide (a1 < 0)))||(decide (a1≥2)))||(!(a0.Links.On.get a1)))
  (.leaf a0)
  (.guard ((0:Int)≤a1∧(a1:Int) < 2)
  (.guard ((0:Int)≤a1∧(a1:Int) < 2)
  (.guard ((0:Int)≤a1∧(a1:Int) < 2)
  (.guard ((0:Int)≤a1∧(a1:Int) < 2)
  (.guard ((0:Int)≤a1∧(a1:Int) < 2)
  (.bind (zff a0.Stake a1 1099511627776) fun v2 =>
  (.bind (zan a0.Queue) fun v3 =>
  (.bind (zch a1 v3) fun v4 =>
  (.leaf ({ a0 with Stake:=v2,Links:={ a0.Links with On:=(a0.Links.On.set a1 false),Gone:=(a0.Links.Gone.set a1 true),Fresh:=(a0.Links.Fresh.set a1 false),Done:=(a0.Links.Done.set a1 []),Closed:=(a0.Links.Closed.set a1 true) },Queue:=v4.2 })))))))))))))
def zcq (a0:za) (a1:Int):=(zka a0 a1).run
def zp5:SpecT:=zt 0 (LQ.v (Par.ofLP providerL) (Par.q intP)) 2 [] (u2 zka) default (Par.q (Par.ofLP providerL)) 1 []
theorem zxb:zf Tryz.prog 83 (zp5).spec :=
 sK (A:=⟨[],[],[],[[2,3,4],[2,3,4,23],[4],[2,3,4],[2,3,4],[2,3,4],[2,4],[4]],[]⟩) zh79 fM Tryz.func83 (c:=(fb Tryz.f83)) (by kernel_rfl) (Lc:=0) trivial _ _ 7 _ _ _ _ _ _ [.pubB 4] (by rintro ⟨a0,a1⟩;kernel_rfl)
noncomputable def zy80:EnvT:=⟨Tryz.prog,zad [(14,zko),(40,zcf),(118,zej)]⟩
theorem zh80:(zy80).Ok:=ze ⟨zm6,zcv,zhf,trivial⟩
def znm (a0:za) (a1:Int) (a2:ByteArray): Tr (za×Int) :=
 (.bind (zcd a2) fun v1 =>
 (.bind (zbb a0) fun v2 =>
 (.ite (!v2)
  (.leaf (a0,2))
  (.guard ((((decide (a1 < 0))||(decide (a1≥2)))=false→((0:Int)≤a1∧(a1:Int) < 2)∧True))
  (.ite (((decide (a1 < 0))||(decide (a1≥2)))||(!(a0.Links.On.get a1)))
   (.leaf (a0,4))
   (.ite (v1.2 != 0)
    (.leaf (a0,v1.2))
    (.ite (v1.1.Kind==1)
     (.leaf (a0,3))
     (.guard ((zan a0.Queue).isSome=true)
     (.guard ((Sl.len (.asked ((zan a0.Queue).getD default))+Sl.len (.asked [(⟨a1,v1.1⟩:Asked)]))*88≤140737488355328)
     (.leaf ({ a0 with Queue:=((zan a0.Queue).getD default)++[(⟨a1,v1.1⟩:Asked)] },0)))))))))))
def zaw (a0:za) (a1:Int) (a2:ByteArray):=(znm a0 a1 a2).run
def zsz:SpecT:=zt 0 (LQ.v (Par.ofLP providerL) (LQ.v intP (Par.q strP))) 3 [] (u3 znm) default (LQ.v (Par.ofLP providerL) (Par.q intP)) 2 []
theorem zze:zf Tryz.prog 80 (zsz).spec :=
 sK (A:=⟨[],[],[],[[1,2,3,6],[1,3,6,8,9],[1,3,6,8,9,15],[6,7],[1,3,6,8,9,20],[6,7],[1,3,6,8,9,36],[6,7],[1,3,6,8,41],[6,7],[3,6],[6,7]],[]⟩) zh80 fM Tryz.func80 (c:=(fb Tryz.f80)) (by kernel_rfl) (Lc:=0) trivial _ _ 8 _ _ _ _ _ _ [.pubB 6] (by rintro ⟨a0,a1,a2⟩;kernel_rfl)
noncomputable def zy81:EnvT:=⟨Tryz.prog,zad [(40,zcf),(44,zra),(45,zss)]⟩
theorem zh81:(zy81).Ok:=ze ⟨zcv,zuk,zw4,trivial⟩
def zh8 (a0:za) (a1 a2:Int): Tr (za×Int) :=
 (.bind (zbb a0) fun v1 =>
 (.ite (!v1)
  (.leaf (a0,2))
  (.ite ((decide (a1 < 0))||(decide (a1≥6)))
   (.leaf (a0,4))
   (.ite ((decide (a2 < 1))||(decide (a2 > a0.Height)))
    (.leaf (a0,2))
    (.guard ((0:Int)≤a1∧(a1:Int) < 6)
    (.ite (a0.Stake.Validators.Dead.get a1)
     (.leaf (a0,15))
     (.bind (zfp a0.Stake a1 a2 50) fun v2 =>
     (.ite (v2.2.2 != 0)
      (.leaf (a0,v2.2.2))
      (.bind (zi5 v2.1 a1) fun v3 =>
      (.ite (v3.2 != 0)
       (.leaf (a0,v3.2))
       (.leaf ({ a0 with Stake:=v3.1 },0))))))))))))
def zg4 (a0:za) (a1 a2:Int):=(zh8 a0 a1 a2).run
def znn:SpecT:=zt 0 (LQ.v (Par.ofLP providerL) (LQ.v intP (Par.q intP))) 3 [] (u3 zh8) default (LQ.v (Par.ofLP providerL) (Par.q intP)) 2 []
theorem zt5:zf Tryz.prog 33 (znn).spec :=
 sK (A:=⟨[],[],[],[[1,2,3,6],[1,2,3,6,11],[6,7],[1,2,3,6,16],[6,7],[1,2,3,6,24],[6,7],[1,2,3,6,34],[6,7],[1,3,6,8,10],[1,3,6,8,10,52],[6,7],[3,6,8,10],[3,6,8,10,62],[6,7],[3,6],[6,7]],[]⟩) zh81 fM Tryz.func33 (c:=(fb Tryz.f33)) (by kernel_rfl) (Lc:=0) trivial _ _ 5 _ _ _ _ _ _ [.pubB 6] (by rintro ⟨a0,a1,a2⟩;kernel_rfl)
noncomputable def zy82:EnvT:=⟨Tryz.prog,zad [(112,zyw),(113,zkn),(114,zx5),(73,zdm)]⟩
theorem zh82:(zy82).Ok:=ze ⟨z5s,zm5,z0y,zf7,trivial⟩
def zno (a0 a1:Int) (a2:za): Tr (za) :=
 (.guard ((0:Int)≤a0∧(a0:Int) < 2)
 (.guard ((zd0 (a2.Links.Told.get a0) a2.Set).isSome=true)
 (.ite ((!(a2.Links.On.get a0))||(((((((zd0 (a2.Links.Told.get a0) a2.Set).getD default).length:Nat):Int)==0)&&(!(a2.Links.Fresh.get a0)))&&((((a2.Links.Done.get a0).length:Nat):Int)==0)))
  (.leaf a2)
  (.guard ((za5 (⟨1,a2.Height,0,0,((zd0 (a2.Links.Told.get a0) a2.Set).getD default),a2.Links.Done.get a0⟩:Packet)).isSome=true)
  (.ite ((((za5 (⟨1,a2.Height,0,0,((zd0 (a2.Links.Told.get a0) a2.Set).getD default),a2.Links.Done.get a0⟩:Packet)).getD default).2) != 0)
   (.leaf a2)
   (.bind (zq5 (⟨a2.Links.Said.get a0,a2.Links.Due.get a0,a2.Links.Got.get a0,a2.Links.Closed.get a0⟩:zgz) (((za5 (⟨1,a2.Height,0,0,((zd0 (a2.Links.Told.get a0) a2.Set).getD default),a2.Links.Done.get a0⟩:Packet)).getD default).1) (i64.wrap (a1+40))) fun v1 =>
   (.ite (v1.2 != 0)
    (.leaf a2)
    (.guard ((zaj a2.Set).isSome=true)
    (.leaf ({ a2 with Links:={ a2.Links with Told:=(a2.Links.Told.set a0 ((zaj a2.Set).getD default)),Fresh:=(a2.Links.Fresh.set a0 false),Done:=(a2.Links.Done.set a0 []),Said:=(a2.Links.Said.set a0 v1.1.Said),Due:=(a2.Links.Due.set a0 v1.1.Due),Got:=(a2.Links.Got.set a0 v1.1.Got),Closed:=(a2.Links.Closed.set a0 v1.1.Closed) } }))))))))))
def zht (a0 a1:Int) (a2:za):=(zno a0 a1 a2).run
def zs0:SpecT:=zt 1 (LQ.kp 0 0 (LQ.v intP (LQ.v intP (LP.q providerL)))) 3 [.cells 58 97] (u3 zno) default (LP.q providerL) 0 [.cells 58 97]
theorem zzf:zf Tryz.prog 72 (zs0).spec :=
 sK (A:=⟨[],[],[],[[0,2,6],[0,2,6,7],[0,2,6,7,49],[0,2,6,8,9],[0,2,6,8,65],[0,6,9,10],[0,6,10,78],[]],[]⟩) zh82 fM Tryz.func72 (c:=(fb Tryz.f72)) (by kernel_rfl) (Lc:=1) trivial _ _ 4 _ _ _ _ _ _ [.pubN 0] (by rintro ⟨a0,a1,a2⟩;kernel_rfl)
def znp (a0:Int): Tr (Bool) :=
 (.leaf (a0 != a0))
def zfl (a0:Int):=(znp a0).run
def zs1:SpecT:=zt 0 (Par.q intP) 1 [] znp default (Par.q boolP) 1 []
theorem zzg:zf Tryz.prog 140 (zs1).spec :=
 sK (A:=⟨[],[],[],[[0],[2]],[]⟩) zhN fM Tryz.func140 (c:=(fb Tryz.f140)) (by kernel_rfl) (Lc:=0) trivial _ _ 2 _ _ _ _ _ _ [] (by rintro a0;kernel_rfl)
noncomputable def zy84:EnvT:=⟨Tryz.prog,zad [(140,zs1)]⟩
theorem zh84:(zy84).Ok:=ze ⟨zzg,trivial⟩
def zpd (a0 a1:Int): Tr (Bool) :=
 (.bind (zfl a0) fun v1 =>
 (.guard ((v1=true→((zfl a1).isSome=true)∧True))
 (.leaf ((v1&&(!((zfl a1).getD default)))||(decide (a0 < a1))))))
def znq (a0 a1:Int):=(zpd a0 a1).run
def zup:SpecT:=zt 0 (LQ.v intP (Par.q intP)) 2 [] (u2 zpd) default (Par.q boolP) 1 []
theorem z1a:zf Tryz.prog 126 (zup).spec :=
 sK (A:=⟨[],[],[],[[0,1],[4]],[]⟩) zh84 fM Tryz.func126 (c:=(fb Tryz.f126)) (by kernel_rfl) (Lc:=0) trivial _ _ 2 _ _ _ _ _ _ [] (by rintro ⟨a0,a1⟩;kernel_rfl)
def zjb (a0:Int): Tr (Bool) :=
 (.leaf (a0 != a0))
def zbe (a0:Int):=(zjb a0).run
def zon:SpecT:=zt 0 (Par.q intP) 1 [] zjb default (Par.q boolP) 1 []
theorem zvr:zf Tryz.prog 127 (zon).spec :=
 sK (A:=⟨[],[],[],[[0],[2]],[]⟩) zhN fM Tryz.func127 (c:=(fb Tryz.f127)) (by kernel_rfl) (Lc:=0) trivial _ _ 2 _ _ _ _ _ _ [] (by rintro a0;kernel_rfl)
def zv86:List (List Nat):=[[0,1],[0,1,6],[0,1,6,7,8],[0,1,6,7,8,15],[0,1,6,7,8,9],[0,1,6,7,8,9,27],[0,1,6,7,8],[0,1,6,7,8],[4,5]]
noncomputable def zy86:EnvT:=⟨Tryz.prog,zad [(126,zup),(127,zon)]⟩
theorem zh86:(zy86).Ok:=ze ⟨z1a,zvr,trivial⟩
def zbg (x0:(List Int)) (x1 x2 x3 x4:Int): Tr (((List Int)×Int×Int×Int×Int)⊕((List Int)×Int×Int×Int)) :=
 (.ite (decide (x3 < x4))
  (.guard ((0:Int)≤1)
  (.guard ((0:Int)≤(i64.wrap (Int.fdiv (u64.wrap (i64.wrap (x3+x4))) (2 ^ 1)))∧(i64.wrap (Int.fdiv (u64.wrap (i64.wrap (x3+x4))) (2 ^ 1))) < ((Sl.len (.ints x0):Nat):Int))
  (.bind (znq (x0.getD ((i64.wrap (Int.fdiv (u64.wrap (i64.wrap (x3+x4))) (2 ^ 1))).toNat) 0) x1) fun v1 =>
  (.ite (v1)
   (.leaf (.inl (x0,x1,x2,i64.wrap ((i64.wrap (Int.fdiv (u64.wrap (i64.wrap (x3+x4))) (2 ^ 1)))+1),x4)))
   (.leaf (.inl (x0,x1,x2,x3,i64.wrap (Int.fdiv (u64.wrap (i64.wrap (x3+x4))) (2 ^ 1)))))))))
  (.leaf (.inr (x0,x1,x2,x3))))
def zfm (x0:(List Int)) (x1 x2 x3 x4:Int):=zdv (fun s:(List Int)×Int×Int×Int×Int=>(zbg s.1 s.2.1 s.2.2.1 s.2.2.2.1 s.2.2.2.2).run) (x0,x1,x2,x3,x4)
def zazb:Ann:=⟨[],[],[],zv86,[]⟩
def zazc:=EndD.mk (LQ.v zf5 (LQ.v intP (LQ.v intP (LQ.v intP (Par.q intP))))) ⟨[0,1,6,7,8],[.pub 0,.nilsl 0 (.ints [])]⟩ []
def zaot:=EndD.mk (LQ.v zf5 (LQ.v intP (LQ.v intP (Par.q intP)))) ⟨[0,1,6,7],[.pub 0,.nilsl 0 (.ints [])]⟩ []
def zaso:St→Option LR:=L1 54 2 0 zazc (.exit 0) zaot (u5 zbg)
def zs86a:=sub (fb Tryz.f104) [0,0,1,1,1]
theorem zazd:zo (zy86).env 0 zs86a zaso :=
 zf4 (A:=zazb) zh86 fM trivial (k:=zb5 zs86a) (by kernel_rfl) rfl (by rintro ⟨x0,x1,x2,x3,x4⟩;kernel_rfl)
def zeb (a0:(List Int)) (a1:Int): Tr (Int×Bool) :=
 (.bind (zfm a0 a1 ((a0.length:Nat):Int) 0 ((a0.length:Nat):Int)) fun v2 =>
 (.guard (((decide (v2.2.2.2 < v2.2.2.1))=true→((0:Int)≤v2.2.2.2∧v2.2.2.2 < ((Sl.len (.ints v2.1):Nat):Int))∧True))
 (.guard ((((v2.1.getD v2.2.2.2.toNat 0)==v2.2.1)=false→((decide (v2.2.2.2 < v2.2.2.1))=true→((0:Int)≤v2.2.2.2∧v2.2.2.2 < ((Sl.len (.ints v2.1):Nat):Int))∧True)))
 (.guard ((((v2.1.getD v2.2.2.2.toNat 0)==v2.2.1)=false→((decide (v2.2.2.2 < v2.2.2.1))=true→((zbe (v2.1.getD v2.2.2.2.toNat 0)).isSome=true)∧True)))
 (.guard ((((zbe (v2.1.getD v2.2.2.2.toNat 0)).getD default)=true→(((v2.1.getD v2.2.2.2.toNat 0)==v2.2.1)=false→((decide (v2.2.2.2 < v2.2.2.1))=true→((zbe v2.2.1).isSome=true)∧True))))
 (.leaf (v2.2.2.2,(decide (v2.2.2.2 < v2.2.2.1))&&(((v2.1.getD v2.2.2.2.toNat 0)==v2.2.1)||(((zbe (v2.1.getD v2.2.2.2.toNat 0)).getD default)&&((zbe v2.2.1).getD default))))))))))
def zp (a0:(List Int)) (a1:Int):=(zeb a0 a1).run
def zhm:SpecT:=zt 0 (LQ.v zf5 (Par.q intP)) 2 [] (u2 zeb) default (LQ.v intP (Par.q boolP)) 2 []
theorem zn4:zf Tryz.prog 104 (zhm).spec :=
 sK (A:=⟨[([0,0,1,1,1],zaso)],[],[],zv86,[]⟩) zh86 fM Tryz.func104 (c:=(fb Tryz.f104)) (by kernel_rfl) (Lc:=0) ⟨zazd,trivial⟩ _ _ 2 _ _ _ _ _ _ [] (by rintro ⟨a0,a1⟩;kernel_rfl)
noncomputable def zy87:EnvT:=⟨Tryz.prog,zad [(101,zm8),(102,zyu),(103,zyv),(104,zhm),(106,zix),(105,F_slices_Insert_int),(44,zra),(45,zss)]⟩
theorem zh87:(zy87).Ok:=ze ⟨zrt,z5q,z5r,zn4,zm2,zt2,zuk,zw4,trivial⟩
def znr (a0:Asked) (a1:za): Tr (Bool×za) :=
 (.guard ((0:Int)≤a0.P.V∧(a0.P.V:Int) < 6)
 (.guard ((0:Int)≤a0.C∧(a0.C:Int) < 2)
 (.ite (a0.P.Kind==2)
  (.guard ((zff a1.Stake a0.C a0.P.Id).isSome=true)
  (.leaf (true,{ a1 with Stake:=((zff a1.Stake a0.C a0.P.Id).getD default) })))
  (.ite (a0.P.Kind==3)
   (.ite (!(a1.Stake.Validators.Jailed.get a0.P.V))
    (.guard ((100:Int)≠0)
    (.guard ((zgo a1.Meter (if (i64.wrap (Int.tdiv (a1.Stake.Validators.Tokens.get a0.P.V) 100)) > 1 then (i64.wrap (Int.tdiv (a1.Stake.Validators.Tokens.get a0.P.V) 100)) else 1)).isSome=true)
    (.ite (!(((zgo a1.Meter (if (i64.wrap (Int.tdiv (a1.Stake.Validators.Tokens.get a0.P.V) 100)) > 1 then (i64.wrap (Int.tdiv (a1.Stake.Validators.Tokens.get a0.P.V) 100)) else 1)).getD default).2))
     (.leaf (false,a1))
     (.guard ((zi4 a1.Stake a0.P.V).isSome=true)
     (.guard ((zp (a1.Links.Done.get a0.C) a0.P.V).isSome=true)
     (.ite (!(((zp (a1.Links.Done.get a0.C) a0.P.V).getD default).2))
      (.guard ((z5 (a1.Links.Done.get a0.C)).isSome=true)
      (.guard ((zbr ((z5 (a1.Links.Done.get a0.C)).getD default) (((zp (a1.Links.Done.get a0.C) a0.P.V).getD default).1) [a0.P.V]).isSome=true)
      (.leaf (true,{ a1 with Stake:=(((zi4 a1.Stake a0.P.V).getD default).1),Links:={ a1.Links with Done:=(a1.Links.Done.set a0.C ((zbr ((z5 (a1.Links.Done.get a0.C)).getD default) (((zp (a1.Links.Done.get a0.C) a0.P.V).getD default).1) [a0.P.V]).getD default)) },Meter:=(((zgo a1.Meter (if (i64.wrap (Int.tdiv (a1.Stake.Validators.Tokens.get a0.P.V) 100)) > 1 then (i64.wrap (Int.tdiv (a1.Stake.Validators.Tokens.get a0.P.V) 100)) else 1)).getD default).1) }))))
      (.leaf (true,{ a1 with Stake:=(((zi4 a1.Stake a0.P.V).getD default).1),Meter:=(((zgo a1.Meter (if (i64.wrap (Int.tdiv (a1.Stake.Validators.Tokens.get a0.P.V) 100)) > 1 then (i64.wrap (Int.tdiv (a1.Stake.Validators.Tokens.get a0.P.V) 100)) else 1)).getD default).1) }))))))))
    (.guard ((zp (a1.Links.Done.get a0.C) a0.P.V).isSome=true)
    (.ite (!(((zp (a1.Links.Done.get a0.C) a0.P.V).getD default).2))
     (.guard ((z5 (a1.Links.Done.get a0.C)).isSome=true)
     (.guard ((zbr ((z5 (a1.Links.Done.get a0.C)).getD default) (((zp (a1.Links.Done.get a0.C) a0.P.V).getD default).1) [a0.P.V]).isSome=true)
     (.leaf (true,{ a1 with Links:={ a1.Links with Done:=(a1.Links.Done.set a0.C ((zbr ((z5 (a1.Links.Done.get a0.C)).getD default) (((zp (a1.Links.Done.get a0.C) a0.P.V).getD default).1) [a0.P.V]).getD default)) } }))))
     (.leaf (true,a1)))))
   (.ite (a0.P.Kind==4)
    (.ite (!(a1.Stake.Validators.Dead.get a0.P.V))
     (.guard ((zfp a1.Stake a0.P.V (if (a1.Links.Base.get a0.C) > a0.P.Id then (a1.Links.Base.get a0.C) else a0.P.Id) 50).isSome=true)
     (.guard ((zi5 (((zfp a1.Stake a0.P.V (if (a1.Links.Base.get a0.C) > a0.P.Id then (a1.Links.Base.get a0.C) else a0.P.Id) 50).getD default).1) a0.P.V).isSome=true)
     (.leaf (true,{ a1 with Stake:=(((zi5 (((zfp a1.Stake a0.P.V (if (a1.Links.Base.get a0.C) > a0.P.Id then (a1.Links.Base.get a0.C) else a0.P.Id) 50).getD default).1) a0.P.V).getD default).1) }))))
     (.leaf (true,a1)))
    (.leaf (true,a1)))))))
def zls (a0:Asked) (a1:za):=(znr a0 a1).run
def zs2:SpecT:=zt 1 (LQ.kp 0 0 (LQ.v (Par.ofLP zafd) (LP.q providerL))) 2 [.cells 58 97] (u2 znr) default (LQ.v boolP (LP.q providerL)) 1 [.cells 58 97]
theorem zzh:zf Tryz.prog 69 (zs2).spec :=
 sK (A:=⟨[],[],[],[[0,3],[0,3,5],[0,3,5,6],[0,3,5,6,28],[0,3,5,6,28,29],[],[0,3,5,6,28,44],[0,3,5,6,48],[0,3,6,7,8],[0,3,6,7,62],[4],[0,3,6],[3,6],[3,6,9,10],[3,6,9,93],[],[0,3,5,6,108],[0,3,6,112],[0,3],[],[4]],[]⟩) zh87 fM Tryz.func69 (c:=(fb Tryz.f69)) (by kernel_rfl) (Lc:=1) trivial _ _ 9 _ _ _ _ _ _ [.pubN 0] (by rintro ⟨a0,a1⟩;kernel_rfl)
def zv88:List (List Nat):=[[1,2,4],[1,2,4,27],[4,5,6],[1,2,4],[1,2,4],[1,2,4,7],[1,2,4,7,8],[1,2,4,7,8,44,45,46],[1,2,4,7,8,44,45,46,47],[1,2,4,7,8,10,44,45,46],[1,2,4,7,8,10,44,45,46,58],[1,2,4,7,8,10,44,45,46],[1,2,4,7,8,44,45,46],[1,2,4,7,8,44,45,46],[1,2,4],[1,2,4,11,12,13],[1,2,4,11,12,13,78],[4,5,6],[1,2,4,12],[1,2,4,12],[1,2,4,12,87],[1,2,4,12,87,88],[1,2,4,12,14,87],[1,2,4,12,87],[1,2,4,12,87],[4,5,6]]
noncomputable def zy88:EnvT:=⟨Tryz.prog,zad [(40,zcf),(68,z05),(67,zyt),(69,zs2),(70,z03),(71,z06),(72,zs0)]⟩
theorem zh88:(zy88).Ok:=ze ⟨zcv,z7t,z5p,zzh,z7s,z7u,zzf,trivial⟩
def zet (x0:Int) (x1:(List Asked)) (x2 x3:Int) (x4 x5:za) (x6:(A2 Bool)) (x7:(List Asked)): Tr ((Int×(List Asked)×Int×Int×za×za×(A2 Bool)×(List Asked))⊕(Int×za×za×(List Asked))) :=
 (.ite (decide (x3 < x2))
  (.guard ((0:Int)≤x3∧x3 < ((Sl.len (.asked x1):Nat):Int))
  (.guard ((0:Int)≤((x1.getD x3.toNat default).C)∧(((x1.getD x3.toNat default).C):Int) < 2)
  (.ite (x6.get ((x1.getD x3.toNat default).C))
   (.ite ((true:Bool))
    (.ite ((true:Bool))
     (.ite ((true:Bool))
      (.guard ((0:Int)≤((x1.getD x3.toNat default).C)∧(((x1.getD x3.toNat default).C):Int) < 2)
      (.guard ((Sl.len (.asked x7)+Sl.len (.asked [(x1.getD x3.toNat default)]))*88≤140737488355328)
      (.leaf (.inl (x0,x1,x2,i64.wrap (x3+1),x4,x5,(x6.set ((x1.getD x3.toNat default).C) true),x7++[(x1.getD x3.toNat default)])))))
      (.leaf (.inl (x0,x1,x2,i64.wrap (x3+1),x4,x5,x6,x7))))
     .fail)
    .fail)
   (.bind (zls (x1.getD x3.toNat default) x4) fun v2 =>
   (.ite ((false:Bool)||(!v2.1))
    (.guard ((0:Int)≤((x1.getD x3.toNat default).C)∧(((x1.getD x3.toNat default).C):Int) < 2)
    (.guard ((Sl.len (.asked x7)+Sl.len (.asked [(x1.getD x3.toNat default)]))*88≤140737488355328)
    (.leaf (.inl (x0,x1,x2,i64.wrap (x3+1),v2.2,x5,(x6.set ((x1.getD x3.toNat default).C) true),x7++[(x1.getD x3.toNat default)])))))
    (.leaf (.inl (x0,x1,x2,i64.wrap (x3+1),v2.2,x5,x6,x7))))))))
  (.leaf (.inr (x0,x4,x5,x7))))
def zf1 (x0:Int) (x1:(List Asked)) (x2 x3:Int) (x4 x5:za) (x6:(A2 Bool)) (x7:(List Asked)):=zdv (fun s:Int×(List Asked)×Int×Int×za×za×(A2 Bool)×(List Asked)=>(zet s.1 s.2.1 s.2.2.1 s.2.2.2.1 s.2.2.2.2.1 s.2.2.2.2.2.1 s.2.2.2.2.2.2.1 s.2.2.2.2.2.2.2).run) (x0,x1,x2,x3,x4,x5,x6,x7)
def zazh:Ann:=⟨[],[],[],zv88,[(23,[9700002])]⟩
def zazi:=EndD.mk (LQ.v intP (LQ.kp 0 0 (LQ.kp 1 0 (LQ.k (LQ.c (.own 3)) (LQ.kp 2 0 (LQ.v zeg (LQ.v intP (LQ.v intP (LQ.seq (LP.q providerL) (LQ.seq (LP.q providerL) (LQ.seq (LP.q (a2L (LP.one boolP))) (Par.q zeg)))))))))))) ⟨[1,2,4,7,8,44,45,46],[.nilown 7 90 (.asked []),.pub 44,.nilsl 44 (.asked [])]⟩ [.cells 58 97,.cells 58 97,.cells 70 2,.rows 90]
def zaou:=EndD.mk (LQ.v intP (LQ.kp 0 0 (LQ.kp 1 0 (LQ.k (LQ.c (.own 2)) (LQ.seq (LP.q providerL) (LQ.seq (LP.q providerL) (Par.q zeg))))))) ⟨[1,2,4,7],[.nilown 7 90 (.asked [])]⟩ [.cells 58 97,.cells 58 97,.rows 90]
def zasp:St→Option LR:=L1 96 9 0 zazi (.exit 0) zaou (u8 zet)
def zs88a:=sub (fb Tryz.f46) [0,1,0,1,1,1,1,1,1]
theorem zazj:zo (zy88).env 0 zs88a zasp :=
 zf4 (A:=zazh) zh88 fM trivial (k:=zb5 zs88a) (by kernel_rfl) rfl (by rintro ⟨x0,x1,x2,x3,x4,x5,x6,x7⟩;kernel_rfl)
def zeu (x0:Int) (x1:(List Int)) (x2:Int) (x3 x4:za): Tr ((Int×(List Int)×Int×za×za)⊕((List Int)×za×za)) :=
 (.ite (decide (x2 < 2))
  (.bind (zht x2 x0 x3) fun v6 =>
  (.leaf (.inl (x0,x1,i64.wrap (x2+1),v6,x4))))
  (.leaf (.inr (x1,x3,x4))))
def zjc (x0:Int) (x1:(List Int)) (x2:Int) (x3 x4:za):=zdv (fun s:Int×(List Int)×Int×za×za=>(zeu s.1 s.2.1 s.2.2.1 s.2.2.2.1 s.2.2.2.2).run) (x0,x1,x2,x3,x4)
def zazk:Ann:=⟨[],[],[],zv88,[(23,[9700002])]⟩
def zazl:=EndD.mk (LQ.v intP (LQ.kp 0 0 (LQ.kp 1 0 (LQ.v zf5 (LQ.v intP (LQ.seq (LP.q providerL) (LP.q providerL))))))) ⟨[1,2,4,12,87],[.pubC 2 96,.pub 12,.nilsl 12 (.ints [])]⟩ [.cells 58 97,.cells 58 97]
def zaov:=EndD.mk (LQ.kp 0 0 (LQ.kp 1 0 (LQ.v zf5 (LQ.seq (LP.q providerL) (LP.q providerL))))) ⟨[2,4,12],[.pubC 2 96,.pub 12,.nilsl 12 (.ints [])]⟩ [.cells 58 97,.cells 58 97]
def zasq:St→Option LR:=L1 96 9 0 zazl (.exit 2) zaov (u5 zeu)
def zs88b:=sub (fb Tryz.f46) [0,1,0,1,1,1,1,1,1,1,1,1,1,1,1]
theorem zazm:zo (zy88).env 0 zs88b zasq :=
 zf4 (A:=zazk) zh88 fM trivial (k:=zb5 zs88b) (by kernel_rfl) rfl (by rintro ⟨x0,x1,x2,x3,x4⟩;kernel_rfl)
def zpe (a0:za) (a1:Int): Tr (za×(List Int)×Int) :=
 (.bind (zbb a0) fun v1 =>
 (.ite (((!v1)||(decide (a1 < a0.Time)))||(decide (a1 > 1099511627776)))
  (.leaf (a0,[],2))
  (.guard ((zk4 a0.Set).isSome=true)
  (.guard ((zmj a0.Meter ((zk4 a0.Set).getD default) a1).isSome=true)
  (.bind (zf1 a1 a0.Queue ((a0.Queue.length:Nat):Int) 0 ({ a0 with Height:=i64.wrap (a0.Height+1),Time:=a1,Meter:=((zmj a0.Meter ((zk4 a0.Set).getD default) a1).getD default) }) (default:za) (⟨false,false⟩:(A2 Bool)) []) fun v3 =>
  (.bind (zoj v3.2.1.Stake v3.1) fun v4 =>
  (.ite (v4.2.2 != 0)
   (.leaf ({ v3.2.1 with Queue:=v3.2.2.2 },[],v4.2.2))
   (.bind (zsw v4.1) fun v5 =>
   (.bind (zjc v3.1 v4.2.1 0 ({ v3.2.1 with Stake:=v4.1,Set:=v5,Queue:=v3.2.2.2 }) v3.2.2.1) fun v7 =>
   (.leaf (v7.2.1,v7.1,0)))))))))))
def zci (a0:za) (a1:Int):=(zpe a0 a1).run
def zuq:SpecT:=zt 0 (LQ.v (Par.ofLP providerL) (Par.q intP)) 2 [] (u2 zpe) default (LQ.v (Par.ofLP providerL) (LQ.v zf5 (Par.q intP))) 3 []
theorem z1b:zf Tryz.prog 46 (zuq).spec :=
 sK (A:=⟨[([0,1,0,1,1,1,1,1,1],zasp),([0,1,0,1,1,1,1,1,1,1,1,1,1,1,1],zasq)],[],[],zv88,[(23,[9700002])]⟩) zh88 fM Tryz.func46 (c:=(fb Tryz.f46)) (by kernel_rfl) (Lc:=0) ⟨zazj,zazm,trivial⟩ _ _ 9 _ _ _ _ _ _ [.pubB 4,.pub 5] (by rintro ⟨a0,a1⟩;kernel_rfl)
end
