/-
  The functions, each by its tree.
-/
import Derived.Test.YtiacgjebngnddaaGreatXAbC
import Derived.Test.YtiacgjebngnddaaGreatXAbClear
import Derived.Test.YtiacgjebngnddaaGreatXAbInsert
import Derived.Test.YtiacgjebngnddaaGreatXFBank
import Derived.Test.YtiacgjebngnddaaGreatXFCodec
import Derived.Test.YtiacgjebngnddaaGreatXFLine
import Derived.Test.YtiacgjebngnddaaGreatXFRatio
import Derived.Test.YtiacgjebngnddaaGreatXFStakeA
import Derived.Test.YtiacgjebngnddaaGreatXFStakeB
import Derived.Test.YtiacgjebngnddaaGreatXFacts
namespace Go.Proofs.YtiacgjebngnddaaGreat.Ab
open Go Go.RowKit
open Go.IntKind (i64 u64)
set_option maxRecDepth 100000
set_option linter.unusedVariables false
set_option linter.unusedSimpArgs false
noncomputable section
noncomputable def zy67:EnvT:=⟨Tryz.prog,zad [(54,z2j),(55,zw2)],false⟩
theorem zh67:(zy67).Ok:=zf ⟨z85,z0l,trivial⟩
def zqs  : Tr (za) :=
 (.bind (zt0) fun v1 =>
 (.bind (zpq 0 0) fun v2 =>
 (.leaf (⟨0,0,v1,[],(default:Links),v2,[]⟩:za))))
def zou  := (zqs ).run
def zvz:SpecT:=zu 0 LQ.nil 0 [] (fun s=>zqs ) default (Par.q (Par.ofLP providerL)) 1 []
theorem z2p:zg Tryz.prog 36 (zvz).spec :=
 sK (A:=⟨[],[],[],[[0],[0]],[]⟩) zh67 fM Tryz.func36 (c:=(fb Tryz.f36)) (by kernel_rfl) (Lc:=0) trivial _ _ 3 _ _ _ _ _ _ [.pubB 0] (by rintro _;kernel_rfl)
def zv68:List (List Nat):=[[0],[0,5,6,7],[0,5,6,7,8],[0,3,4,5,6,7],[0,5,6,7,44],[2],[0,5,6,7],[2]]
def zhv (x0 x1:(List Power)) (x2 x3:Int): Tr (((List Power)×(List Power)×Int×Int)⊕((Bool)⊕(Unit))) :=
 (.ite (decide (x3 < x2))
  (.guard ((0:Int)≤x3∧x3 < ((Sl.len (.powers x1):Nat):Int))
  (.guard (((decide (x3 > 0))=true→(((decide (((x1.getD x3.toNat default).V) < 0))||(decide (((x1.getD x3.toNat default).V)≥6)))=false→((0:Int)≤(i64.wrap (x3 - 1))∧(i64.wrap (x3 - 1)) < ((Sl.len (.powers x0):Nat):Int))∧True)))
  (.ite (((((decide (((x1.getD x3.toNat default).V) < 0))||(decide (((x1.getD x3.toNat default).V)≥6)))||((decide (x3 > 0))&&(decide (((x0.getD ((i64.wrap (x3 - 1)).toNat) default).V)≥((x1.getD x3.toNat default).V)))))||(decide (((x1.getD x3.toNat default).N) < 1)))||(decide (((x1.getD x3.toNat default).N) > 1125899906842624)))
   (.leaf (.inr (.inl false)))
   (.leaf (.inl (x0,x1,x2,i64.wrap (x3+1)))))))
  (.leaf (.inr (.inr ()))))
def zpw (x0 x1:(List Power)) (x2 x3:Int):=zcv (fun s:(List Power)×(List Power)×Int×Int=>(zhv s.1 s.2.1 s.2.2.1 s.2.2.2).run) (x0,x1,x2,x3)
def za1n:Ann:=⟨[],[],[],zv68,[]⟩
def za1o:=EndD.mk (LQ.v zd (LQ.v zd (LQ.v intP (Par.q intP)))) ⟨[0,5,6,7],[.pub 0,.nilsl 0 (.powers []),.pub 5,.nilsl 5 (.powers [])]⟩ []
def zaqh:=EndD.mk (Par.q boolP) ⟨[2],[]⟩ []
def zaqi:EndD (Unit):=⟨LQ.nil,⟨[],[]⟩,[]⟩
def zat4:St→Option LR:=L2 46 3 0 za1o .ret zaqh (.exit 0) zaqi (u4 zhv)
def zs68a:=sub (fb Tryz.f57) [0,1,0,1]
theorem za1p:zl (zyN).env 0 zs68a zat4 :=
 zmq (A:=za1n) zhN fM trivial (k:=za5 zs68a) (by kernel_rfl) rfl rfl (by rintro ⟨x0,x1,x2,x3⟩;kernel_rfl)
def zqt (a0:(List Power)): Tr (Bool) :=
 (.two (zpw a0 a0 ((a0.length:Nat):Int) 0) (fun v1 =>
  (.leaf v1)) (fun v2 =>
  (.leaf true)))
def zdt (a0:(List Power)):=(zqt a0).run
def zv0:SpecT:=zu 0 (Par.q zd) 1 [] zqt default (Par.q boolP) 1 []
theorem z2q:zg Tryz.prog 57 (zv0).spec :=
 sK (A:=⟨[([0,1,0,1],zat4)],[],[],zv68,[]⟩) zhN fM Tryz.func57 (c:=(fb Tryz.f57)) (by kernel_rfl) (Lc:=0) ⟨za1p,trivial⟩ _ _ 3 _ _ _ _ _ _ [] (by rintro a0;kernel_rfl)
noncomputable def zy69:EnvT:=⟨Tryz.prog,zad [(29,zmd)],false⟩
theorem zh69:(zy69).Ok:=zf ⟨znt,trivial⟩
def zle (a0:Asked) (a1:za): Tr (Bool×za) :=
 (.guard ((((decide (a0.C < 0))||(decide (a0.C≥2)))=false→((0:Int)≤a0.C∧(a0.C:Int) < 2)∧True))
 (.guard (((((decide (a0.C < 0))||(decide (a0.C≥2)))||(!(a1.Links.On.get a0.C)))=false→((zfu a0.P).isSome=true)∧True))
 (.leaf (((((decide (a0.C < 0))||(decide (a0.C≥2)))||(!(a1.Links.On.get a0.C)))||(((zfu a0.P).getD default) != 0))||(a0.P.Kind==1),a1))))
def zkg (a0:Asked) (a1:za):=(zle a0 a1).run
def zrm:SpecT:=zu 1 (LQ.v (Par.ofLP zagr) (LQ.kp 0 0 (LP.q providerL))) 2 [.cells 58 97] (u2 zle) default (LQ.v boolP (LP.q providerL)) 1 [.cells 58 97]
theorem zyq:zg Tryz.prog 60 (zrm).spec :=
 sK (A:=⟨[],[],[],[[1,2],[3]],[]⟩) zh69 fM Tryz.func60 (c:=(fb Tryz.f60)) (by kernel_rfl) (Lc:=1) trivial _ _ 4 _ _ _ _ _ _ [.pubN 0] (by rintro ⟨a0,a1⟩;kernel_rfl)
def zv70:List (List Nat):=[[0,1],[0,1,7,8],[0,1,7,8,9],[0,1,5,7,8],[0,1,5,7,8,16],[4],[0,1,7,8],[4]]
noncomputable def zy70:EnvT:=⟨Tryz.prog,zad [(60,zrm)],false⟩
theorem zh70:(zy70).Ok:=zf ⟨zyq,trivial⟩
def zah (x0:(List Asked)) (x1 x2:Int) (x3:za): Tr (((List Asked)×Int×Int×za)⊕((Int×za)⊕(za))) :=
 (.ite (decide (x2 < x1))
  (.guard ((0:Int)≤x2∧x2 < ((Sl.len (.asked x0):Nat):Int))
  (.bind (zkg (x0.getD x2.toNat default) x3) fun v1 =>
  (.ite (v1.1)
   (.leaf (.inr (.inl (x2,v1.2))))
   (.leaf (.inl (x0,x1,i64.wrap (x2+1),v1.2))))))
  (.leaf (.inr (.inr x3))))
def zd0 (x0:(List Asked)) (x1 x2:Int) (x3:za):=zcv (fun s:(List Asked)×Int×Int×za=>(zah s.1 s.2.1 s.2.2.1 s.2.2.2).run) (x0,x1,x2,x3)
def za1q:Ann:=⟨[],[],[],zv70,[]⟩
def za1r:=EndD.mk (LQ.v zbe (LQ.k (LQ.c (.fn 60 [.ptr 0 0])) (LQ.v intP (LQ.v intP (LP.q providerL))))) ⟨[0,1,7,8],[.pub 0,.nilsl 0 (.asked [])]⟩ [.cells 58 97]
def zaqj:=EndD.mk (LQ.v intP (LP.q providerL)) ⟨[4],[]⟩ [.cells 58 97]
def zaqk:=EndD.mk (LP.q providerL) ⟨[],[]⟩ [.cells 58 97]
def zat5:St→Option LR:=L2 19 3 1 za1r .ret zaqj (.exit 0) zaqk (u4 zah)
def zs70a:=sub (fb Tryz.f92) [0,1,0,1]
theorem za1s:zl (zy70).env 1 zs70a zat5 :=
 zmq (A:=za1q) zh70 fM trivial (k:=za5 zs70a) (by kernel_rfl) rfl rfl (by rintro ⟨x0,x1,x2,x3⟩;kernel_rfl)
def za9 (a0:(List Asked)) (a1:za): Tr (Int×za) :=
 (.two (zd0 a0 ((a0.length:Nat):Int) 0 a1) (fun v2 =>
  (.leaf (v2.1,v2.2))) (fun v3 =>
  (.leaf (-1,v3))))
def zb9 (a0:(List Asked)) (a1:za):=(za9 a0 a1).run
def zfi:SpecT:=zu 1 (LQ.v zbe (LQ.k (LQ.c (.fn 60 [.ptr 0 0])) (LP.q providerL))) 2 [.cells 58 97] (u2 za9) default (LQ.v intP (LP.q providerL)) 1 [.cells 58 97]
theorem zlf:zg Tryz.prog 92 (zfi).spec :=
 sK (A:=⟨[([0,1,0,1],zat5)],[],[],zv70,[]⟩) zh70 fM Tryz.func92 (c:=(fb Tryz.f92)) (by kernel_rfl) (Lc:=1) ⟨za1s,trivial⟩ _ _ 3 _ _ _ _ _ _ [.pubN 0] (by rintro ⟨a0,a1⟩;kernel_rfl)
noncomputable def zy71:EnvT:=⟨Tryz.prog,zad [(92,zfi)],false⟩
theorem zh71:(zy71).Ok:=zf ⟨zlf,trivial⟩
def zca (a0:(List Asked)) (a1:za): Tr (Bool×za) :=
 (.bind (zb9 a0 a1) fun v1 =>
 (.leaf (decide (v1.1≥0),v1.2)))
def zb5 (a0:(List Asked)) (a1:za):=(zca a0 a1).run
def ze5:SpecT:=zu 1 (LQ.v zbe (LQ.k (LQ.c (.fn 60 [.ptr 0 0])) (LP.q providerL))) 2 [.cells 58 97] (u2 zca) default (LQ.v boolP (LP.q providerL)) 1 [.cells 58 97]
theorem zkt:zg Tryz.prog 59 (ze5).spec :=
 sK (A:=⟨[],[],[],[[0,1],[4]],[]⟩) zh71 fM Tryz.func59 (c:=(fb Tryz.f59)) (by kernel_rfl) (Lc:=1) trivial _ _ 3 _ _ _ _ _ _ [.pubN 0] (by rintro ⟨a0,a1⟩;kernel_rfl)
def zv72:List (List Nat):=[[1],[1,36],[2],[1,38,39],[1,38,39,40],[1,4,38,39],[1,4,38,39,71],[2],[1,4,38,39,73,74,75],[1,4,38,39,73,74,75,76],[1,4,5,6,38,39,73,74,75],[1,4,38,39,73,74,75,99],[2],[1,4,38,39,73,74,75],[1,38,39],[2]]
noncomputable def zy72:EnvT:=⟨Tryz.prog,zad [(56,zps),(57,zv0),(58,zk6),(59,ze5)],false⟩
theorem zh72:(zy72).Ok:=zf ⟨zsm,z2q,zmc,zkt,trivial⟩
def zgt (x0:Links) (x1:Int) (x2:(List Int)) (x3 x4:Int) (x5:za) (x6:Link): Tr ((Links×Int×(List Int)×Int×Int×za×Link)⊕((Bool)⊕(Links×Int×za))) :=
 (.ite (decide (x4 < x3))
  (.guard ((0:Int)≤x4∧x4 < ((Sl.len (.ints x2):Nat):Int))
  (.guard (((decide (x4 > 0))=true→(((decide ((x2.getD x4.toNat 0) < 0))||(decide ((x2.getD x4.toNat 0)≥6)))=false→((0:Int)≤(i64.wrap (x4 - 1))∧(i64.wrap (x4 - 1)) < ((Sl.len (.ints x6.Done):Nat):Int))∧True)))
  (.ite (((decide ((x2.getD x4.toNat 0) < 0))||(decide ((x2.getD x4.toNat 0)≥6)))||((decide (x4 > 0))&&(decide ((x6.Done.getD ((i64.wrap (x4 - 1)).toNat) 0)≥(x2.getD x4.toNat 0)))))
   (.leaf (.inr (.inl false)))
   (.leaf (.inl (x0,x1,x2,x3,i64.wrap (x4+1),x5,x6))))))
  (.leaf (.inr (.inr (x0,x1,x5)))))
def zov (x0:Links) (x1:Int) (x2:(List Int)) (x3 x4:Int) (x5:za) (x6:Link):=zcv (fun s:Links×Int×(List Int)×Int×Int×za×Link=>(zgt s.1 s.2.1 s.2.2.1 s.2.2.2.1 s.2.2.2.2.1 s.2.2.2.2.2.1 s.2.2.2.2.2.2).run) (x0,x1,x2,x3,x4,x5,x6)
def za1w:Ann:=⟨[],[],[],zv72,[]⟩
def za1x:=EndD.mk (LQ.kp 0 0 (LQ.kp 1 0 (LQ.v (Par.ofLP linksL) (LQ.v intP (LQ.v zt (LQ.v intP (LQ.v intP (LQ.seq (LP.q providerL) (LP.q zasd))))))))) ⟨[1,4,38,39,73,74,75],[.pub 73,.nilsl 73 (.ints [])]⟩ [.cells 58 97,.cells 52 14]
def zaql:=EndD.mk (Par.q boolP) ⟨[2],[]⟩ []
def zaqm:=EndD.mk (LQ.kp 0 0 (LQ.v (Par.ofLP linksL) (LQ.v intP (LP.q providerL)))) ⟨[1,38,39],[]⟩ [.cells 58 97]
def zat6:St→Option LR:=L2 107 4 0 za1x .ret zaql (.exit 2) zaqm (u7 zgt)
def zs72a:=sub (fb Tryz.f40) [0,1,1,1,0,0,1,1,0,0,1,0,1,1]
theorem za1y:zl (zy72).env 0 zs72a zat6 :=
 zmq (A:=za1w) zh72 fM trivial (k:=za5 zs72a) (by kernel_rfl) rfl rfl (by rintro ⟨x0,x1,x2,x3,x4,x5,x6⟩;kernel_rfl)
def zcz (x0:Links) (x1:Int) (x2:za): Tr ((Links×Int×za)⊕((Bool)⊕(za))) :=
 (.ite (decide (x1 < 2))
  (.guard ((0:Int)≤x1∧(x1:Int) < 2)
  (.guard ((((((x0.On.get x1)&&(x0.Gone.get x1))||(decide ((x0.Base.get x1) < 0)))||(decide ((x0.Base.get x1) > x2.Height)))=false→((zdt (x0.Told.get x1)).isSome=true)∧True))
  (.guard (((((((x0.On.get x1)&&(x0.Gone.get x1))||(decide ((x0.Base.get x1) < 0)))||(decide ((x0.Base.get x1) > x2.Height)))||(!((zdt (x0.Told.get x1)).getD default)))=false→((zeb (⟨x0.Said.get x1,x0.Due.get x1,x0.Got.get x1,x0.Closed.get x1⟩:zcd)).isSome=true)∧True))
  (.ite ((((((x0.On.get x1)&&(x0.Gone.get x1))||(decide ((x0.Base.get x1) < 0)))||(decide ((x0.Base.get x1) > x2.Height)))||(!((zdt (x0.Told.get x1)).getD default)))||(!((zeb (⟨x0.Said.get x1,x0.Due.get x1,x0.Got.get x1,x0.Closed.get x1⟩:zcd)).getD default)))
   (.leaf (.inr (.inl false)))
   (.two (zov x0 x1 (x0.Done.get x1) (((x0.Done.get x1).length:Nat):Int) 0 x2 (⟨x0.On.get x1,x0.Gone.get x1,x0.Base.get x1,x0.Told.get x1,x0.Fresh.get x1,x0.Done.get x1,(⟨x0.Said.get x1,x0.Due.get x1,x0.Got.get x1,x0.Closed.get x1⟩:zcd),(⟨x0.SHeight.get x1,x0.STime.get x1,x0.SSaid.get x1,x0.SGot.get x1⟩:Head)⟩:Link)) (fun v2 =>
    (.leaf (.inr (.inl v2)))) (fun v3 =>
    (.leaf (.inl (v3.1,i64.wrap (v3.2.1+1),v3.2.2)))))))))
  (.leaf (.inr (.inr x2))))
def zjb (x0:Links) (x1:Int) (x2:za):=zcv (fun s:Links×Int×za=>(zcz s.1 s.2.1 s.2.2).run) (x0,x1,x2)
def za1z:Ann:=⟨[([0,1,1,1,0,0,1,1,0,0,1,0,1,1],zat6)],[],[],zv72,[]⟩
def za10:=EndD.mk (LQ.kp 0 0 (LQ.v (Par.ofLP linksL) (LQ.v intP (LP.q providerL)))) ⟨[1,38,39],[]⟩ [.cells 58 97]
def zaqn:=EndD.mk (Par.q boolP) ⟨[2],[]⟩ []
def zaqo:=EndD.mk (LQ.kp 0 0 (LP.q providerL)) ⟨[1],[]⟩ [.cells 58 97]
def zat7:St→Option LR:=L2 107 4 0 za10 .ret zaqn (.exit 0) zaqo (u3 zcz)
def zs72b:=sub (fb Tryz.f40) [0,1,0,1,1]
theorem za11:zl (zy72).env 0 zs72b zat7 :=
 zmq (A:=za1z) zh72 fM ⟨za1y,trivial⟩ (k:=za5 zs72b) (by kernel_rfl) rfl rfl (by rintro ⟨x0,x1,x2⟩;kernel_rfl)
def zow (a0:za): Tr (Bool) :=
 (.bind (zj8 a0.Stake) fun v1 =>
 (.guard (((((((!v1)||(decide (a0.Height < 0)))||(decide (a0.Height≥1099511627776)))||(decide (a0.Time < 0)))||(decide (a0.Time > 1099511627776)))=false→((zdt a0.Set).isSome=true)∧True))
 (.ite ((((((!v1)||(decide (a0.Height < 0)))||(decide (a0.Height≥1099511627776)))||(decide (a0.Time < 0)))||(decide (a0.Time > 1099511627776)))||(!((zdt a0.Set).getD default)))
  (.leaf false)
  (.two (zjb a0.Links 0 a0) (fun v4 =>
   (.leaf v4)) (fun v5 =>
   (.bind (zb5 v5.Queue v5) fun v6 =>
   (.leaf (!v6.1))))))))
def zbl (a0:za):=(zow a0).run
def zcj:SpecT:=zu 0 (Par.q (Par.ofLP providerL)) 1 [] zow default (Par.q boolP) 1 []
theorem zc1:zg Tryz.prog 40 (zcj).spec :=
 sK (A:=⟨[([0,1,0,1,1],zat7)],[],[],zv72,[]⟩) zh72 fM Tryz.func40 (c:=(fb Tryz.f40)) (by kernel_rfl) (Lc:=0) ⟨za11,trivial⟩ _ _ 4 _ _ _ _ _ _ [] (by rintro a0;kernel_rfl)
noncomputable def zy73:EnvT:=⟨Tryz.prog,zad [(40,zcj),(41,zs3)],false⟩
theorem zh73:(zy73).Ok:=zf ⟨zc1,zzr,trivial⟩
def zjc (a0:za) (a1 a2 a3:Int): Tr (za×Int) :=
 (.bind (zbl a0) fun v1 =>
 (.ite (!v1)
  (.leaf (a0,2))
  (.bind (zk7 a0.Stake a1 a2 a3) fun v2 =>
  (.ite (v2.2 != 0)
   (.leaf (a0,v2.2))
   (.leaf ({ a0 with Stake:=v2.1 },0))))))
def zh1 (a0:za) (a1 a2 a3:Int):=(zjc a0 a1 a2 a3).run
def zox:SpecT:=zu 0 (LQ.v (Par.ofLP providerL) (LQ.v intP (LQ.v intP (Par.q intP)))) 4 [] (u4 zjc) default (LQ.v (Par.ofLP providerL) (Par.q intP)) 2 []
theorem zvf:zg Tryz.prog 30 (zox).spec :=
 sK (A:=⟨[],[],[],[[1,2,3,4,8],[1,2,3,4,8,14],[8,9],[4,8,10,11],[4,8,10,11,26],[8,9],[4,8],[8,9]],[]⟩) zh73 fM Tryz.func30 (c:=(fb Tryz.f30)) (by kernel_rfl) (Lc:=0) trivial _ _ 5 _ _ _ _ _ _ [.pubB 8] (by rintro ⟨a0,a1,a2,a3⟩;kernel_rfl)
def zv74:List (List Nat):=[[1,2,3,4,5,10],[1,2,3,4,5,10,27],[10,11],[1,2,3,5,10,12],[1,2,3,5,10,12,35],[1,2,3,5,10,12,35,36],[1,2,3,5,10,12,13,35],[1,2,3,5,10,12,13,35,42],[1,2,3,5,10,12,35],[1,2,3,5,10,12,35],[5,10,14,15],[5,10,14,15,61],[10,11],[5,10],[5,10,66],[5,10,66,67],[5,10,16,66],[5,10,66],[5,10,66],[10,11]]
noncomputable def zy74:EnvT:=⟨Tryz.prog,zad [(40,zcj),(42,zpt)],false⟩
theorem zh74:(zy74).Ok:=zf ⟨zc1,zw6,trivial⟩
def zaz (x0 x1 x2 x3:Int) (x4 x5:za) (x6:Wait): Tr ((Int×Int×Int×Int×za×za×Wait)⊕(Int×Int×Int×za×za×Wait)) :=
 (.ite (decide (x3 < 2))
  (.guard ((0:Int)≤x3∧(x3:Int) < 2)
  (.ite (x4.Links.On.get x3)
   (.guard ((0:Int)≤x3∧(x3:Int) < 2)
   (.leaf (.inl (x0,x1,x2,i64.wrap (x3+1),x4,x5,{ (x6:Wait) with h0:=if x3=0 then i64.wrap (x4.Height+1) else x6.h0,h1:=if x3=1 then i64.wrap (x4.Height+1) else x6.h1 }))))
   (.leaf (.inl (x0,x1,x2,i64.wrap (x3+1),x4,x5,x6)))))
  (.leaf (.inr (x0,x1,x2,x4,x5,x6))))
def zel (x0 x1 x2 x3:Int) (x4 x5:za) (x6:Wait):=zcv (fun s:Int×Int×Int×Int×za×za×Wait=>(zaz s.1 s.2.1 s.2.2.1 s.2.2.2.1 s.2.2.2.2.1 s.2.2.2.2.2.1 s.2.2.2.2.2.2).run) (x0,x1,x2,x3,x4,x5,x6)
def za15:Ann:=⟨[],[],[],zv74,[]⟩
def za16:=EndD.mk (LQ.v intP (LQ.v intP (LQ.v intP (LQ.kp 0 0 (LQ.kp 1 0 (LQ.kp 2 0 (LQ.v intP (LQ.seq (LP.q providerL) (LQ.seq (LP.q providerL) (LP.q zaov)))))))))) ⟨[1,2,3,5,10,12,35],[]⟩ [.cells 58 97,.cells 58 97,.cells 78 8]
def zaqp:=EndD.mk (LQ.v intP (LQ.v intP (LQ.v intP (LQ.kp 0 0 (LQ.kp 1 0 (LQ.kp 2 0 (LQ.seq (LP.q providerL) (LQ.seq (LP.q providerL) (LP.q zaov))))))))) ⟨[1,2,3,5,10,12],[]⟩ [.cells 58 97,.cells 58 97,.cells 78 8]
def zat8:St→Option LR:=L1 87 6 0 za16 (.exit 0) zaqp (u7 zaz)
def zs74a:=sub (fb Tryz.f31) [0,1,0,1,1,1]
theorem za17:zl (zy74).env 0 zs74a zat8 :=
 zd1 (A:=za15) zh74 fM trivial (k:=za5 zs74a) (by kernel_rfl) rfl (by rintro ⟨x0,x1,x2,x3,x4,x5,x6⟩;kernel_rfl)
def za0 (x0:Int) (x1 x2:za): Tr ((Int×za×za)⊕(za×za)) :=
 (.ite (decide (x0 < 2))
  (.guard ((0:Int)≤x0∧(x0:Int) < 2)
  (.guard (((x1.Links.Fresh.get x0)=false→((0:Int)≤x0∧(x0:Int) < 2)∧True))
  (.guard ((0:Int)≤x0∧(x0:Int) < 2)
  (.leaf (.inl (i64.wrap (x0+1),{ x1 with Links:={ x1.Links with Fresh:=(x1.Links.Fresh.set x0 ((x1.Links.Fresh.get x0)||(x1.Links.On.get x0))) } },x2))))))
  (.leaf (.inr (x1,x2))))
def zio (x0:Int) (x1 x2:za):=zcv (fun s:Int×za×za=>(za0 s.1 s.2.1 s.2.2).run) (x0,x1,x2)
def za18:Ann:=⟨[],[],[],zv74,[]⟩
def za19:=EndD.mk (LQ.kp 0 0 (LQ.kp 1 0 (LQ.v intP (LQ.seq (LP.q providerL) (LP.q providerL))))) ⟨[5,10,66],[]⟩ [.cells 58 97,.cells 58 97]
def zaqq:=EndD.mk (LQ.kp 0 0 (LQ.kp 1 0 (LQ.seq (LP.q providerL) (LP.q providerL)))) ⟨[5,10],[]⟩ [.cells 58 97,.cells 58 97]
def zat9:St→Option LR:=L1 87 6 0 za19 (.exit 2) zaqq (u3 za0)
def zs74b:=sub (fb Tryz.f31) [0,1,0,1,1,1,1,1,1,1]
theorem za2a:zl (zy74).env 0 zs74b zat9 :=
 zd1 (A:=za18) zh74 fM trivial (k:=za5 zs74b) (by kernel_rfl) rfl (by rintro ⟨x0,x1,x2⟩;kernel_rfl)
def zg5 (a0:za) (a1 a2 a3 a4:Int): Tr (za×Int) :=
 (.bind (zbl a0) fun v1 =>
 (.ite (((!v1)||(decide (a4 < 0)))||(decide (a4 > 1099511627776)))
  (.leaf (a0,2))
  (.bind (zel a1 a2 a3 0 a0 (default:za) (⟨0,0,0,0,i64.wrap (a0.Height+1),i64.wrap (a4+20),0,0⟩:Wait)) fun v2 =>
  (.bind (zi8 v2.2.2.2.1.Stake v2.1 v2.2.1 v2.2.2.1 v2.2.2.2.2.2) fun v3 =>
  (.ite (v3.2 != 0)
   (.leaf (v2.2.2.2.1,v3.2))
   (.bind (zio 0 ({ v2.2.2.2.1 with Stake:=v3.1 }) v2.2.2.2.2.1) fun v4 =>
   (.leaf (v4.1,0))))))))
def zbd (a0:za) (a1 a2 a3 a4:Int):=(zg5 a0 a1 a2 a3 a4).run
def zmg:SpecT:=zu 0 (LQ.v (Par.ofLP providerL) (LQ.v intP (LQ.v intP (LQ.v intP (Par.q intP))))) 5 [] (u5 zg5) default (LQ.v (Par.ofLP providerL) (Par.q intP)) 2 []
theorem ztb:zg Tryz.prog 31 (zmg).spec :=
 sK (A:=⟨[([0,1,0,1,1,1],zat8),([0,1,0,1,1,1,1,1,1,1],zat9)],[],[],zv74,[]⟩) zh74 fM Tryz.func31 (c:=(fb Tryz.f31)) (by kernel_rfl) (Lc:=0) ⟨za17,za2a,trivial⟩ _ _ 6 _ _ _ _ _ _ [.pubB 10] (by rintro ⟨a0,a1,a2,a3,a4⟩;kernel_rfl)
def zv75:List (List Nat):=[[1,2,4],[1,2,4,8],[4,5],[1,2,4,13],[4,5],[1,2,4,21],[4,5],[1,2,4,28],[4,5],[1,2,4,35],[4,5],[1,2,4],[1,2,4],[1,2,4,64,65],[1,2,4,64,65,66],[1,2,4,6,64,65],[1,2,4,7,64,65],[1,2,4,7,64,65,79],[1,2,4,64,65],[1,2,4,64,65],[1,2,4,64,65],[4,5]]
noncomputable def zy75:EnvT:=⟨Tryz.prog,zad [(40,zcj),(73,zd4),(64,zbs)],false⟩
theorem zh75:(zy75).Ok:=zf ⟨zc1,zg0,zcw,trivial⟩
def zdu (x0 x1 x2:Int) (x3 x4:za): Tr ((Int×Int×Int×za×za)⊕(za×za)) :=
 (.ite (decide (x2 < x1))
  (.guard ((0:Int)≤x2∧x2 < ((Sl.len (.waits x3.Stake.Waits):Nat):Int))
  (.ite (decide (((x3.Stake.Waits.getD x2.toNat default).Height) > x3.Height))
   (.guard ((0:Int)≤x0∧(x0:Int) < 2)
   (.guard ((0:Int)≤x0∧(x0:Int) < 2)
   (.leaf (.inl (x0,x1,i64.wrap (x2+1),{ x3 with Stake:={ x3.Stake with Waits:=x3.Stake.Waits.set x2.toNat ({ ((x3.Stake.Waits.getD x2.toNat default):Wait) with h0:=if x0=0 then (x3.Stake.Waits.getD x2.toNat default).Height else (x3.Stake.Waits.getD x2.toNat default).h0,h1:=if x0=1 then (x3.Stake.Waits.getD x2.toNat default).Height else (x3.Stake.Waits.getD x2.toNat default).h1 }) },Links:={ x3.Links with Fresh:=(x3.Links.Fresh.set x0 true) } },x4)))))
   (.leaf (.inl (x0,x1,i64.wrap (x2+1),x3,x4)))))
  (.leaf (.inr (x3,x4))))
def zh2 (x0 x1 x2:Int) (x3 x4:za):=zcv (fun s:Int×Int×Int×za×za=>(zdu s.1 s.2.1 s.2.2.1 s.2.2.2.1 s.2.2.2.2).run) (x0,x1,x2,x3,x4)
def za2b:Ann:=⟨[],[],[],zv75,[]⟩
def za2c:=EndD.mk (LQ.map (LQ.v intP (LQ.kp 0 0 (LQ.kp 1 0 (LQ.v intP (LQ.v intP (LQ.v intP (LQ.v intP (LQ.seq (LP.q bankL) (LQ.seq (LP.q validatorsL) (LQ.seq (LP.q (a4L (a6L (LP.one intP)))) (LQ.k (LQ.c (.own 2)) (LQ.v intP (LQ.v zd (LQ.seq (LP.q linksL) (LQ.seq (LP.q meterL) (LQ.v zbe (LQ.seq (LP.q providerL) (Par.q zc6)))))))))))))))))) (fun x=>(x.1,x.2.1,x.2.2.1,(⟨x.2.2.2.1,(d4 x).1,(⟨(d4 x).2.1,(d4 x).2.2.1,(d4 x).2.2.2.1,(d12 x).2.2,(d8 x).1⟩:Stake),(d8 x).2.1,(d8 x).2.2.1,(d8 x).2.2.2.1,(d12 x).1⟩:za),(d12 x).2.1)) (fun y=>(y.1,y.2.1,y.2.2.1,y.2.2.2.1.Height,y.2.2.2.1.Time,y.2.2.2.1.Stake.Bank,y.2.2.2.1.Stake.Validators,y.2.2.2.1.Stake.Shares,y.2.2.2.1.Stake.Next,y.2.2.2.1.Set,y.2.2.2.1.Links,y.2.2.2.1.Meter,y.2.2.2.1.Queue,(d4 y),y.2.2.2.1.Stake.Waits)) (fun _=>rfl)) ⟨[1,2,4,64,65],[.nilcell 2 63 78 (.waits [])]⟩ [.cells 58 97,.cells 58 97,.rows 78]
def zaqr:=EndD.mk (LQ.map (LQ.kp 0 0 (LQ.kp 1 0 (LQ.v intP (LQ.v intP (LQ.seq (LP.q bankL) (LQ.seq (LP.q validatorsL) (LQ.seq (LP.q (a4L (a6L (LP.one intP)))) (LQ.k (LQ.c (.own 2)) (LQ.v intP (LQ.v zd (LQ.seq (LP.q linksL) (LQ.seq (LP.q meterL) (LQ.v zbe (LQ.seq (LP.q providerL) (Par.q zc6))))))))))))))) (fun x=>((⟨x.1,x.2.1,(⟨x.2.2.1,x.2.2.2.1,(d4 x).1,(d8 x).2.2.2,(d4 x).2.1⟩:Stake),(d4 x).2.2.1,(d4 x).2.2.2.1,(d8 x).1,(d8 x).2.1⟩:za),(d8 x).2.2.1)) (fun y=>(y.1.Height,y.1.Time,y.1.Stake.Bank,y.1.Stake.Validators,y.1.Stake.Shares,y.1.Stake.Next,y.1.Set,y.1.Links,y.1.Meter,y.1.Queue,y.2,y.1.Stake.Waits)) (fun _=>rfl)) ⟨[2,4],[.nilcell 2 63 78 (.waits [])]⟩ [.cells 58 97,.cells 58 97,.rows 78]
def zaua:St→Option LR:=L1 95 5 0 za2c (.exit 1) zaqr (u5 zdu)
def zs75a:=sub (fb Tryz.f47) [0,1,0,1,1,1,1]
theorem za2d:zl (zy75).env 0 zs75a zaua :=
 zd1 (A:=za2b) zh75 fM trivial (k:=za5 zs75a) (by kernel_rfl) rfl (by rintro ⟨x0,x1,x2,x3,x4⟩;kernel_rfl)
def zm0 (a0:za) (a1:Int): Tr (za×Int) :=
 (.bind (zbl a0) fun v1 =>
 (.ite (!v1)
  (.leaf (a0,2))
  (.ite ((decide (a1 < 0))||(decide (a1≥2)))
   (.leaf (a0,4))
   (.guard ((0:Int)≤a1∧(a1:Int) < 2)
   (.ite (a0.Links.Gone.get a1)
    (.leaf (a0,11))
    (.guard ((0:Int)≤a1∧(a1:Int) < 2)
    (.ite (a0.Links.On.get a1)
     (.leaf (a0,5))
     (.ite ((decide (a0.Height < 1))||(((a0.Set.length:Nat):Int)==0))
      (.leaf (a0,13))
      (.guard ((zao a0.Set).isSome=true)
      (.guard ((0:Int)≤a1∧(a1:Int) < 2)
      (.bind (zw a0.Stake.Waits) fun v2 =>
      (.bind (zh2 a1 ((v2.length:Nat):Int) 0 ({ a0 with Stake:={ a0.Stake with Waits:=v2 },Links:=(⟨(a0.Links.On.set a1 true),(a0.Links.Gone.set a1 false),(a0.Links.Base.set a1 a0.Height),(a0.Links.Told.set a1 ((zao a0.Set).getD default)),(a0.Links.Fresh.set a1 false),(a0.Links.Done.set a1 []),(a0.Links.Said.set a1 []),(a0.Links.Due.set a1 []),(a0.Links.Got.set a1 0),(a0.Links.Closed.set a1 false),(a0.Links.SHeight.set a1 0),(a0.Links.STime.set a1 0),(a0.Links.SSaid.set a1 0),(a0.Links.SGot.set a1 0)⟩:Links) }) (default:za)) fun v3 =>
      (.leaf (v3.1,0))))))))))))))
def zap (a0:za) (a1:Int):=(zm0 a0 a1).run
def zs7:SpecT:=zu 0 (LQ.v (Par.ofLP providerL) (Par.q intP)) 2 [] (u2 zm0) default (LQ.v (Par.ofLP providerL) (Par.q intP)) 2 []
theorem zzt:zg Tryz.prog 47 (zs7).spec :=
 sK (A:=⟨[([0,1,0,1,1,1,1],zaua)],[],[],zv75,[]⟩) zh75 fM Tryz.func47 (c:=(fb Tryz.f47)) (by kernel_rfl) (Lc:=0) ⟨za2d,trivial⟩ _ _ 5 _ _ _ _ _ _ [.pubB 4] (by rintro ⟨a0,a1⟩;kernel_rfl)
def zjd (a0:Asked) (a1:Int): Tr (Bool×Int) :=
 (.leaf (a0.C==a1,a1))
def zer (a0:Asked) (a1:Int):=(zjd a0 a1).run
def zje:SpecT:=zu 1 (LQ.v (Par.ofLP zagr) (LQ.kp 0 0 (Par.q intP))) 2 [.cells 3 1] (u2 zjd) default (LQ.v boolP (Par.q intP)) 1 [.cells 3 1]
theorem znb:zg Tryz.prog 121 (zje).spec :=
 sK (A:=⟨[],[],[],[[1,2],[3]],[]⟩) zhN fM Tryz.func121 (c:=(fb Tryz.f121)) (by kernel_rfl) (Lc:=1) trivial _ _ 4 _ _ _ _ _ _ [] (by rintro ⟨a0,a1⟩;kernel_rfl)
def zv77:List (List Nat):=[[0,1],[0,1,7,8],[0,1,7,8,9],[0,1,5,7,8],[0,1,5,7,8,16],[4],[0,1,7,8],[4]]
noncomputable def zy77:EnvT:=⟨Tryz.prog,zad [(121,zje)],false⟩
theorem zh77:(zy77).Ok:=zf ⟨znb,trivial⟩
def zai (x0 x1 x2:Int) (x3:(List Asked)): Tr ((Int×Int×Int×(List Asked))⊕((Int×Int×(List Asked))⊕(Int×(List Asked)))) :=
 (.ite (decide (x1 < x0))
  (.guard ((0:Int)≤x1∧x1 < ((Sl.len (.asked x3):Nat):Int))
  (.bind (zer (x3.getD x1.toNat default) x2) fun v1 =>
  (.ite (v1.1)
   (.leaf (.inr (.inl (x1,v1.2,x3))))
   (.leaf (.inl (x0,i64.wrap (x1+1),v1.2,x3))))))
  (.leaf (.inr (.inr (x2,x3)))))
def zbr (x0 x1 x2:Int) (x3:(List Asked)):=zcv (fun s:Int×Int×Int×(List Asked)=>(zai s.1 s.2.1 s.2.2.1 s.2.2.2).run) (x0,x1,x2,x3)
def za2e:Ann:=⟨[],[],[],zv77,[]⟩
def za2f:=EndD.mk (LQ.k (LQ.c (.own 1)) (LQ.k (LQ.c (.fn 121 [.ptr 0 0])) (LQ.v intP (LQ.v intP (LQ.v intP (Par.q zbe)))))) ⟨[0,1,7,8],[.nilown 0 90 (.asked [])]⟩ [.cells 3 1,.rows 90]
def zaqs:=EndD.mk (LQ.v intP (LQ.v intP (Par.q zbe))) ⟨[4],[]⟩ [.cells 3 1,.rows 90]
def zaqt:=EndD.mk (LQ.v intP (Par.q zbe)) ⟨[],[]⟩ [.cells 3 1,.rows 90]
def zaub:St→Option LR:=L2 19 4 2 za2f .ret zaqs (.exit 0) zaqt (u4 zai)
def zs77a:=sub (fb Tryz.f92) [0,1,0,1]
theorem za2g:zl (zy77).env 2 zs77a zaub :=
 zmq (A:=za2e) zh77 fM trivial (k:=za5 zs77a) (by kernel_rfl) rfl rfl (by rintro ⟨x0,x1,x2,x3⟩;kernel_rfl)
def zck (a0:Int) (a1:(List Asked)): Tr (Int×Int×(List Asked)) :=
 (.two (zbr ((a1.length:Nat):Int) 0 a0 a1) (fun v2 =>
  (.leaf (v2.1,v2.2.1,v2.2.2))) (fun v3 =>
  (.leaf (-1,v3.1,v3.2))))
def za6 (a0:Int) (a1:(List Asked)):=(zck a0 a1).run
def zfj:SpecT:=zu 2 (LQ.k (LQ.c (.own 1)) (LQ.k (LQ.c (.fn 121 [.ptr 0 0])) (LQ.v intP (Par.q zbe)))) 2 [.cells 3 1,.rows 90] (u2 zck) default (LQ.v intP (LQ.v intP (Par.q zbe))) 1 [.cells 3 1,.rows 90]
theorem zlg:zg Tryz.prog 92 (zfj).spec :=
 sK (A:=⟨[([0,1,0,1],zaub)],[],[],zv77,[]⟩) zh77 fM Tryz.func92 (c:=(fb Tryz.f92)) (by kernel_rfl) (Lc:=2) ⟨za2g,trivial⟩ _ _ 4 _ _ _ _ _ _ [] (by rintro ⟨a0,a1⟩;kernel_rfl)
def zv78:List (List Nat):=[[0,1],[0,1,5],[0,1,5,12],[4],[0,1,5,6],[0,1,5,6,19],[0,1,5,6],[0,1,5,6,7],[0,1,5,6,7,29],[0,1,5,6],[0,1,5,6],[0,5],[4]]
noncomputable def zy78:EnvT:=⟨Tryz.prog,zad [(92,zfj),(121,zje)],false⟩
theorem zh78:(zy78).Ok:=zf ⟨zlg,znb,trivial⟩
def zauc:St→Option LR:=clearL 0 5 36 37 38
def zs78A:=sub (fb Tryz.f120) [0,1,1,1,1]
theorem za2i:zl (zy78).env 1 zs78A zauc :=
 zakm (T:=56) (E:=90) (z:=(zi Tryz.prog (zeroValue 90)).getD undef) (by kernel_rfl) (by kernel_rfl) (by kernel_rfl) (by kernel_rfl) (by decide) (by decide) (by kernel_rfl) (by kernel_rfl) (by kernel_rfl) (by kernel_rfl)
def zak (x0 x1 x2:Int) (x3:(List Asked)): Tr ((Int×Int×Int×(List Asked))⊕(Int×Int×(List Asked))) :=
 (.ite (decide (x1 < ((x3.length:Nat):Int)))
  (.guard ((0:Int)≤x1∧x1 < ((Sl.len (.asked x3):Nat):Int))
  (.bind (zer (x3.getD x1.toNat default) x2) fun v2 =>
  (.ite (!v2.1)
   (.guard ((0:Int)≤x0∧x0 < ((Sl.len (.asked x3):Nat):Int))
   (.leaf (.inl (i64.wrap (x0+1),i64.wrap (x1+1),v2.2,x3.set x0.toNat (x3.getD x1.toNat default)))))
   (.leaf (.inl (x0,i64.wrap (x1+1),v2.2,x3))))))
  (.leaf (.inr (x0,x2,x3))))
def zbw (x0 x1 x2:Int) (x3:(List Asked)):=zcv (fun s:Int×Int×Int×(List Asked)=>(zak s.1 s.2.1 s.2.2.1 s.2.2.2).run) (x0,x1,x2,x3)
def za2j:Ann:=⟨[],[],[],zv78,[]⟩
def za2k:=EndD.mk (LQ.k (LQ.c (.own 1)) (LQ.k (LQ.c (.fn 121 [.ptr 0 0])) (LQ.v intP (LQ.v intP (LQ.v intP (Par.q zbe)))))) ⟨[0,1,5,6],[.nilown 0 90 (.asked [])]⟩ [.cells 3 1,.rows 90]
def zaqu:=EndD.mk (LQ.k (LQ.c (.own 1)) (LQ.v intP (LQ.v intP (Par.q zbe)))) ⟨[0,5],[.nilown 0 90 (.asked [])]⟩ [.cells 3 1,.rows 90]
def zaud:St→Option LR:=L1 42 5 1 za2k (.exit 0) zaqu (u4 zak)
def zs78a:=sub (fb Tryz.f120) [0,1,0,1,1,1]
theorem za2l:zl (zy78).env 1 zs78a zaud :=
 zd1 (A:=za2j) zh78 fM trivial (k:=za5 zs78a) (by kernel_rfl) rfl (by rintro ⟨x0,x1,x2,x3⟩;kernel_rfl)
def zc2 (a0:Int) (a1:(List Asked)): Tr (Int×(List Asked)) :=
 (.bind (za6 a0 a1) fun v1 =>
 (.ite (v1.1==(-1))
  (.leaf (v1.2.1,v1.2.2))
  (.bind (zbw v1.1 (i64.wrap (v1.1+1)) v1.2.1 v1.2.2) fun v3 =>
  (.bind (z8d v3.2.2 v3.1) fun v4 =>
  (.guard ((0:Int)≤v3.1∧v3.1≤((Sl.len (.asked v4):Nat):Int))
  (.leaf (v3.2.1,((v4.drop 0).take (v3.1.toNat - 0)))))))))
def zcl (a0:Int) (a1:(List Asked)):=(zc2 a0 a1).run
def zf7:SpecT:=zu 1 (LQ.k (LQ.c (.own 1)) (LQ.k (LQ.c (.fn 121 [.ptr 0 0])) (LQ.v intP (Par.q zbe)))) 2 [.cells 3 1,.rows 90] (u2 zc2) default (LQ.k (LQ.c (.own 1)) (LQ.v intP (Par.q zbe))) 1 [.cells 3 1,.rows 90]
theorem zmh:zg Tryz.prog 120 (zf7).spec :=
 sK (A:=⟨[([0,1,0,1,1,1],zaud),([0,1,1,1,1],zauc)],[],[],zv78,[]⟩) zh78 fM Tryz.func120 (c:=(fb Tryz.f120)) (by kernel_rfl) (Lc:=1) ⟨za2l,za2i,trivial⟩ _ _ 5 _ _ _ _ _ _ [.nilown 4 90 (.asked [])] (by rintro ⟨a0,a1⟩;kernel_rfl)
noncomputable def zy79:EnvT:=⟨Tryz.prog,zad [(40,zcj),(101,zoj),(118,zev),(120,zf7)],false⟩
theorem zh79:(zy79).Ok:=zf ⟨zc1,zs4,zii,zmh,trivial⟩
def zlh (a0:za) (a1:Int): Tr (za) :=
 (.bind (zbl a0) fun v1 =>
 (.guard (((((!v1)||(decide (a1 < 0)))||(decide (a1≥2)))=false→((0:Int)≤a1∧(a1:Int) < 2)∧True))
 (.ite ((((!v1)||(decide (a1 < 0)))||(decide (a1≥2)))||(!(a0.Links.On.get a1)))
  (.leaf a0)
  (.guard ((0:Int)≤a1∧(a1:Int) < 2)
  (.guard ((0:Int)≤a1∧(a1:Int) < 2)
  (.guard ((0:Int)≤a1∧(a1:Int) < 2)
  (.guard ((0:Int)≤a1∧(a1:Int) < 2)
  (.guard ((0:Int)≤a1∧(a1:Int) < 2)
  (.bind (zf2 a0.Stake a1 1099511627776) fun v2 =>
  (.bind (zat a0.Queue) fun v3 =>
  (.bind (zcl a1 v3) fun v4 =>
  (.leaf ({ a0 with Stake:=v2,Links:={ a0.Links with On:=(a0.Links.On.set a1 false),Gone:=(a0.Links.Gone.set a1 true),Fresh:=(a0.Links.Fresh.set a1 false),Done:=(a0.Links.Done.set a1 []),Closed:=(a0.Links.Closed.set a1 true) },Queue:=v4.2 })))))))))))))
def zc0 (a0:za) (a1:Int):=(zlh a0 a1).run
def zrn:SpecT:=zu 0 (LQ.v (Par.ofLP providerL) (Par.q intP)) 2 [] (u2 zlh) default (Par.q (Par.ofLP providerL)) 1 []
theorem zyr:zg Tryz.prog 83 (zrn).spec :=
 sK (A:=⟨[],[],[],[[2,3,4],[2,3,4,23],[4],[2,3,4],[2,3,4],[2,3,4],[2,4],[4]],[]⟩) zh79 fM Tryz.func83 (c:=(fb Tryz.f83)) (by kernel_rfl) (Lc:=0) trivial _ _ 7 _ _ _ _ _ _ [.pubB 4] (by rintro ⟨a0,a1⟩;kernel_rfl)
noncomputable def zy80:EnvT:=⟨Tryz.prog,zad [(14,zqn),(40,zcj),(118,zev)],false⟩
theorem zh80:(zy80).Ok:=zf ⟨ztz,zc1,zii,trivial⟩
def zoy (a0:za) (a1:Int) (a2:ByteArray): Tr (za×Int) :=
 (.bind (ze0 a2) fun v1 =>
 (.bind (zbl a0) fun v2 =>
 (.ite (!v2)
  (.leaf (a0,2))
  (.guard ((((decide (a1 < 0))||(decide (a1≥2)))=false→((0:Int)≤a1∧(a1:Int) < 2)∧True))
  (.ite (((decide (a1 < 0))||(decide (a1≥2)))||(!(a0.Links.On.get a1)))
   (.leaf (a0,4))
   (.ite (v1.2 != 0)
    (.leaf (a0,v1.2))
    (.ite (v1.1.Kind==1)
     (.leaf (a0,3))
     (.guard ((zat a0.Queue).isSome=true)
     (.guard ((Sl.len (.asked ((zat a0.Queue).getD default))+Sl.len (.asked [(⟨a1,v1.1⟩:Asked)]))*88≤140737488355328)
     (.leaf ({ a0 with Queue:=((zat a0.Queue).getD default)++[(⟨a1,v1.1⟩:Asked)] },0)))))))))))
def za4 (a0:za) (a1:Int) (a2:ByteArray):=(zoy a0 a1 a2).run
def zub:SpecT:=zu 0 (LQ.v (Par.ofLP providerL) (LQ.v intP (Par.q strP))) 3 [] (u3 zoy) default (LQ.v (Par.ofLP providerL) (Par.q intP)) 2 []
theorem z0y:zg Tryz.prog 80 (zub).spec :=
 sK (A:=⟨[],[],[],[[1,2,3,6],[1,3,6,8,9],[1,3,6,8,9,15],[6,7],[1,3,6,8,9,20],[6,7],[1,3,6,8,9,36],[6,7],[1,3,6,8,41],[6,7],[3,6],[6,7]],[]⟩) zh80 fM Tryz.func80 (c:=(fb Tryz.f80)) (by kernel_rfl) (Lc:=0) trivial _ _ 8 _ _ _ _ _ _ [.pubB 6] (by rintro ⟨a0,a1,a2⟩;kernel_rfl)
noncomputable def zy81:EnvT:=⟨Tryz.prog,zad [(40,zcj),(44,zsp),(45,zt4)],false⟩
theorem zh81:(zy81).Ok:=zf ⟨zc1,zvw,zyk,trivial⟩
def zjf (a0:za) (a1 a2:Int): Tr (za×Int) :=
 (.bind (zbl a0) fun v1 =>
 (.ite (!v1)
  (.leaf (a0,2))
  (.ite ((decide (a1 < 0))||(decide (a1≥6)))
   (.leaf (a0,4))
   (.ite ((decide (a2 < 1))||(decide (a2 > a0.Height)))
    (.leaf (a0,2))
    (.guard ((0:Int)≤a1∧(a1:Int) < 6)
    (.ite (a0.Stake.Validators.Dead.get a1)
     (.leaf (a0,15))
     (.bind (zgc a0.Stake a1 a2 50) fun v2 =>
     (.ite (v2.2.2 != 0)
      (.leaf (a0,v2.2.2))
      (.bind (zkb v2.1 a1) fun v3 =>
      (.ite (v3.2 != 0)
       (.leaf (a0,v3.2))
       (.leaf ({ a0 with Stake:=v3.1 },0))))))))))))
def zh7 (a0:za) (a1 a2:Int):=(zjf a0 a1 a2).run
def zoz:SpecT:=zu 0 (LQ.v (Par.ofLP providerL) (LQ.v intP (Par.q intP))) 3 [] (u3 zjf) default (LQ.v (Par.ofLP providerL) (Par.q intP)) 2 []
theorem zvg:zg Tryz.prog 33 (zoz).spec :=
 sK (A:=⟨[],[],[],[[1,2,3,6],[1,2,3,6,11],[6,7],[1,2,3,6,16],[6,7],[1,2,3,6,24],[6,7],[1,2,3,6,34],[6,7],[1,3,6,8,10],[1,3,6,8,10,52],[6,7],[3,6,8,10],[3,6,8,10,62],[6,7],[3,6],[6,7]],[]⟩) zh81 fM Tryz.func33 (c:=(fb Tryz.f33)) (by kernel_rfl) (Lc:=0) trivial _ _ 5 _ _ _ _ _ _ [.pubB 6] (by rintro ⟨a0,a1,a2⟩;kernel_rfl)
noncomputable def zy82:EnvT:=⟨Tryz.prog,zad [(112,z0p),(113,zl2),(114,zzq),(73,zd4)],false⟩
theorem zh82:(zy82).Ok:=zf ⟨z7a,zoh,z2f,zg0,trivial⟩
def zo0 (a0 a1:Int) (a2:za): Tr (za) :=
 (.guard ((0:Int)≤a0∧(a0:Int) < 2)
 (.guard ((zed (a2.Links.Told.get a0) a2.Set).isSome=true)
 (.ite ((!(a2.Links.On.get a0))||(((((((zed (a2.Links.Told.get a0) a2.Set).getD default).length:Nat):Int)==0)&&(!(a2.Links.Fresh.get a0)))&&((((a2.Links.Done.get a0).length:Nat):Int)==0)))
  (.leaf a2)
  (.guard ((zbg (⟨1,a2.Height,0,0,((zed (a2.Links.Told.get a0) a2.Set).getD default),a2.Links.Done.get a0⟩:Packet)).isSome=true)
  (.ite ((((zbg (⟨1,a2.Height,0,0,((zed (a2.Links.Told.get a0) a2.Set).getD default),a2.Links.Done.get a0⟩:Packet)).getD default).2) != 0)
   (.leaf a2)
   (.bind (zsk (⟨a2.Links.Said.get a0,a2.Links.Due.get a0,a2.Links.Got.get a0,a2.Links.Closed.get a0⟩:zcd) (((zbg (⟨1,a2.Height,0,0,((zed (a2.Links.Told.get a0) a2.Set).getD default),a2.Links.Done.get a0⟩:Packet)).getD default).1) (i64.wrap (a1+40))) fun v1 =>
   (.ite (v1.2 != 0)
    (.leaf a2)
    (.guard ((zao a2.Set).isSome=true)
    (.leaf ({ a2 with Links:={ a2.Links with Told:=(a2.Links.Told.set a0 ((zao a2.Set).getD default)),Fresh:=(a2.Links.Fresh.set a0 false),Done:=(a2.Links.Done.set a0 []),Said:=(a2.Links.Said.set a0 v1.1.Said),Due:=(a2.Links.Due.set a0 v1.1.Due),Got:=(a2.Links.Got.set a0 v1.1.Got),Closed:=(a2.Links.Closed.set a0 v1.1.Closed) } }))))))))))
def zi0 (a0 a1:Int) (a2:za):=(zo0 a0 a1 a2).run
def zuc:SpecT:=zu 1 (LQ.kp 0 0 (LQ.v intP (LQ.v intP (LP.q providerL)))) 3 [.cells 58 97] (u3 zo0) default (LP.q providerL) 0 [.cells 58 97]
theorem z0z:zg Tryz.prog 72 (zuc).spec :=
 sK (A:=⟨[],[],[],[[0,2,6],[0,2,6,7],[0,2,6,7,49],[0,2,6,8,9],[0,2,6,8,65],[0,6,9,10],[0,6,10,78],[]],[]⟩) zh82 fM Tryz.func72 (c:=(fb Tryz.f72)) (by kernel_rfl) (Lc:=1) trivial _ _ 4 _ _ _ _ _ _ [.pubN 0] (by rintro ⟨a0,a1,a2⟩;kernel_rfl)
def zo1 (a0:Int): Tr (Bool) :=
 (.leaf (a0 != a0))
def zf8 (a0:Int):=(zo1 a0).run
def zud:SpecT:=zu 0 (Par.q intP) 1 [] zo1 default (Par.q boolP) 1 []
theorem z00:zg Tryz.prog 140 (zud).spec :=
 sK (A:=⟨[],[],[],[[0],[2]],[]⟩) zhN fM Tryz.func140 (c:=(fb Tryz.f140)) (by kernel_rfl) (Lc:=0) trivial _ _ 2 _ _ _ _ _ _ [] (by rintro a0;kernel_rfl)
noncomputable def zy84:EnvT:=⟨Tryz.prog,zad [(140,zud)],false⟩
theorem zh84:(zy84).Ok:=zf ⟨z00,trivial⟩
def zqu (a0 a1:Int): Tr (Bool) :=
 (.bind (zf8 a0) fun v1 =>
 (.guard ((v1=true→((zf8 a1).isSome=true)∧True))
 (.leaf ((v1&&(!((zf8 a1).getD default)))||(decide (a0 < a1))))))
def zo2 (a0 a1:Int):=(zqu a0 a1).run
def zv1:SpecT:=zu 0 (LQ.v intP (Par.q intP)) 2 [] (u2 zqu) default (Par.q boolP) 1 []
theorem z2r:zg Tryz.prog 126 (zv1).spec :=
 sK (A:=⟨[],[],[],[[0,1],[4]],[]⟩) zh84 fM Tryz.func126 (c:=(fb Tryz.f126)) (by kernel_rfl) (Lc:=0) trivial _ _ 2 _ _ _ _ _ _ [] (by rintro ⟨a0,a1⟩;kernel_rfl)
def zkh (a0:Int): Tr (Bool) :=
 (.leaf (a0 != a0))
def zbm (a0:Int):=(zkh a0).run
def zpx:SpecT:=zu 0 (Par.q intP) 1 [] zkh default (Par.q boolP) 1 []
theorem zxa:zg Tryz.prog 127 (zpx).spec :=
 sK (A:=⟨[],[],[],[[0],[2]],[]⟩) zhN fM Tryz.func127 (c:=(fb Tryz.f127)) (by kernel_rfl) (Lc:=0) trivial _ _ 2 _ _ _ _ _ _ [] (by rintro a0;kernel_rfl)
def zv86:List (List Nat):=[[0,1],[0,1,6],[0,1,6,7,8],[0,1,6,7,8,15],[0,1,6,7,8,9],[0,1,6,7,8,9,27],[0,1,6,7,8],[0,1,6,7,8],[4,5]]
noncomputable def zy86:EnvT:=⟨Tryz.prog,zad [(126,zv1),(127,zpx)],false⟩
theorem zh86:(zy86).Ok:=zf ⟨z2r,zxa,trivial⟩
def zbp (x0:(List Int)) (x1 x2 x3 x4:Int): Tr (((List Int)×Int×Int×Int×Int)⊕((List Int)×Int×Int×Int)) :=
 (.ite (decide (x3 < x4))
  (.guard ((0:Int)≤1)
  (.guard ((0:Int)≤(i64.wrap (Int.fdiv (u64.wrap (i64.wrap (x3+x4))) (2 ^ 1)))∧(i64.wrap (Int.fdiv (u64.wrap (i64.wrap (x3+x4))) (2 ^ 1))) < ((Sl.len (.ints x0):Nat):Int))
  (.bind (zo2 (x0.getD ((i64.wrap (Int.fdiv (u64.wrap (i64.wrap (x3+x4))) (2 ^ 1))).toNat) 0) x1) fun v1 =>
  (.ite (v1)
   (.leaf (.inl (x0,x1,x2,i64.wrap ((i64.wrap (Int.fdiv (u64.wrap (i64.wrap (x3+x4))) (2 ^ 1)))+1),x4)))
   (.leaf (.inl (x0,x1,x2,x3,i64.wrap (Int.fdiv (u64.wrap (i64.wrap (x3+x4))) (2 ^ 1)))))))))
  (.leaf (.inr (x0,x1,x2,x3))))
def zf9 (x0:(List Int)) (x1 x2 x3 x4:Int):=zcv (fun s:(List Int)×Int×Int×Int×Int=>(zbp s.1 s.2.1 s.2.2.1 s.2.2.2.1 s.2.2.2.2).run) (x0,x1,x2,x3,x4)
def za2m:Ann:=⟨[],[],[],zv86,[]⟩
def za2n:=EndD.mk (LQ.v zt (LQ.v intP (LQ.v intP (LQ.v intP (Par.q intP))))) ⟨[0,1,6,7,8],[.pub 0,.nilsl 0 (.ints [])]⟩ []
def zaqv:=EndD.mk (LQ.v zt (LQ.v intP (LQ.v intP (Par.q intP)))) ⟨[0,1,6,7],[.pub 0,.nilsl 0 (.ints [])]⟩ []
def zaue:St→Option LR:=L1 54 2 0 za2n (.exit 0) zaqv (u5 zbp)
def zs86a:=sub (fb Tryz.f104) [0,0,1,1,1]
theorem za2o:zl (zy86).env 0 zs86a zaue :=
 zd1 (A:=za2m) zh86 fM trivial (k:=za5 zs86a) (by kernel_rfl) rfl (by rintro ⟨x0,x1,x2,x3,x4⟩;kernel_rfl)
def zem (a0:(List Int)) (a1:Int): Tr (Int×Bool) :=
 (.bind (zf9 a0 a1 ((a0.length:Nat):Int) 0 ((a0.length:Nat):Int)) fun v2 =>
 (.guard (((decide (v2.2.2.2 < v2.2.2.1))=true→((0:Int)≤v2.2.2.2∧v2.2.2.2 < ((Sl.len (.ints v2.1):Nat):Int))∧True))
 (.guard ((((v2.1.getD v2.2.2.2.toNat 0)==v2.2.1)=false→((decide (v2.2.2.2 < v2.2.2.1))=true→((0:Int)≤v2.2.2.2∧v2.2.2.2 < ((Sl.len (.ints v2.1):Nat):Int))∧True)))
 (.guard ((((v2.1.getD v2.2.2.2.toNat 0)==v2.2.1)=false→((decide (v2.2.2.2 < v2.2.2.1))=true→((zbm (v2.1.getD v2.2.2.2.toNat 0)).isSome=true)∧True)))
 (.guard ((((zbm (v2.1.getD v2.2.2.2.toNat 0)).getD default)=true→(((v2.1.getD v2.2.2.2.toNat 0)==v2.2.1)=false→((decide (v2.2.2.2 < v2.2.2.1))=true→((zbm v2.2.1).isSome=true)∧True))))
 (.leaf (v2.2.2.2,(decide (v2.2.2.2 < v2.2.2.1))&&(((v2.1.getD v2.2.2.2.toNat 0)==v2.2.1)||(((zbm (v2.1.getD v2.2.2.2.toNat 0)).getD default)&&((zbm v2.2.1).getD default))))))))))
def zv (a0:(List Int)) (a1:Int):=(zem a0 a1).run
def ziq:SpecT:=zu 0 (LQ.v zt (Par.q intP)) 2 [] (u2 zem) default (LQ.v intP (Par.q boolP)) 2 []
theorem zpd:zg Tryz.prog 104 (ziq).spec :=
 sK (A:=⟨[([0,0,1,1,1],zaue)],[],[],zv86,[]⟩) zh86 fM Tryz.func104 (c:=(fb Tryz.f104)) (by kernel_rfl) (Lc:=0) ⟨za2o,trivial⟩ _ _ 2 _ _ _ _ _ _ [] (by rintro ⟨a0,a1⟩;kernel_rfl)
noncomputable def zy87:EnvT:=⟨Tryz.prog,zad [(101,zoj),(102,z0n),(103,z0o),(104,ziq),(106,zj3),(105,F_slices_Insert_int),(44,zsp),(45,zt4)],false⟩
theorem zh87:(zy87).Ok:=zf ⟨zs4,z68,z69,zpd,zoe,zve,zvw,zyk,trivial⟩
def zo3 (a0:Asked) (a1:za): Tr (Bool×za) :=
 (.guard ((0:Int)≤a0.P.V∧(a0.P.V:Int) < 6)
 (.guard ((0:Int)≤a0.C∧(a0.C:Int) < 2)
 (.ite (a0.P.Kind==2)
  (.guard ((zf2 a1.Stake a0.C a0.P.Id).isSome=true)
  (.leaf (true,{ a1 with Stake:=((zf2 a1.Stake a0.C a0.P.Id).getD default) })))
  (.ite (a0.P.Kind==3)
   (.ite (!(a1.Stake.Validators.Jailed.get a0.P.V))
    (.guard ((100:Int)≠0)
    (.guard ((zhq a1.Meter (if (i64.wrap (Int.tdiv (a1.Stake.Validators.Tokens.get a0.P.V) 100)) > 1 then (i64.wrap (Int.tdiv (a1.Stake.Validators.Tokens.get a0.P.V) 100)) else 1)).isSome=true)
    (.ite (!(((zhq a1.Meter (if (i64.wrap (Int.tdiv (a1.Stake.Validators.Tokens.get a0.P.V) 100)) > 1 then (i64.wrap (Int.tdiv (a1.Stake.Validators.Tokens.get a0.P.V) 100)) else 1)).getD default).2))
     (.leaf (false,a1))
     (.guard ((zka a1.Stake a0.P.V).isSome=true)
     (.guard ((zv (a1.Links.Done.get a0.C) a0.P.V).isSome=true)
     (.ite (!(((zv (a1.Links.Done.get a0.C) a0.P.V).getD default).2))
      (.guard ((zac (a1.Links.Done.get a0.C)).isSome=true)
      (.guard ((zby ((zac (a1.Links.Done.get a0.C)).getD default) (((zv (a1.Links.Done.get a0.C) a0.P.V).getD default).1) [a0.P.V]).isSome=true)
      (.leaf (true,{ a1 with Stake:=(((zka a1.Stake a0.P.V).getD default).1),Links:={ a1.Links with Done:=(a1.Links.Done.set a0.C ((zby ((zac (a1.Links.Done.get a0.C)).getD default) (((zv (a1.Links.Done.get a0.C) a0.P.V).getD default).1) [a0.P.V]).getD default)) },Meter:=(((zhq a1.Meter (if (i64.wrap (Int.tdiv (a1.Stake.Validators.Tokens.get a0.P.V) 100)) > 1 then (i64.wrap (Int.tdiv (a1.Stake.Validators.Tokens.get a0.P.V) 100)) else 1)).getD default).1) }))))
      (.leaf (true,{ a1 with Stake:=(((zka a1.Stake a0.P.V).getD default).1),Meter:=(((zhq a1.Meter (if (i64.wrap (Int.tdiv (a1.Stake.Validators.Tokens.get a0.P.V) 100)) > 1 then (i64.wrap (Int.tdiv (a1.Stake.Validators.Tokens.get a0.P.V) 100)) else 1)).getD default).1) }))))))))
    (.guard ((zv (a1.Links.Done.get a0.C) a0.P.V).isSome=true)
    (.ite (!(((zv (a1.Links.Done.get a0.C) a0.P.V).getD default).2))
     (.guard ((zac (a1.Links.Done.get a0.C)).isSome=true)
     (.guard ((zby ((zac (a1.Links.Done.get a0.C)).getD default) (((zv (a1.Links.Done.get a0.C) a0.P.V).getD default).1) [a0.P.V]).isSome=true)
     (.leaf (true,{ a1 with Links:={ a1.Links with Done:=(a1.Links.Done.set a0.C ((zby ((zac (a1.Links.Done.get a0.C)).getD default) (((zv (a1.Links.Done.get a0.C) a0.P.V).getD default).1) [a0.P.V]).getD default)) } }))))
     (.leaf (true,a1)))))
   (.ite (a0.P.Kind==4)
    (.ite (!(a1.Stake.Validators.Dead.get a0.P.V))
     (.guard ((zgc a1.Stake a0.P.V (if (a1.Links.Base.get a0.C) > a0.P.Id then (a1.Links.Base.get a0.C) else a0.P.Id) 50).isSome=true)
     (.guard ((zkb (((zgc a1.Stake a0.P.V (if (a1.Links.Base.get a0.C) > a0.P.Id then (a1.Links.Base.get a0.C) else a0.P.Id) 50).getD default).1) a0.P.V).isSome=true)
     (.leaf (true,{ a1 with Stake:=(((zkb (((zgc a1.Stake a0.P.V (if (a1.Links.Base.get a0.C) > a0.P.Id then (a1.Links.Base.get a0.C) else a0.P.Id) 50).getD default).1) a0.P.V).getD default).1) }))))
     (.leaf (true,a1)))
    (.leaf (true,a1)))))))
def zm1 (a0:Asked) (a1:za):=(zo3 a0 a1).run
def zue:SpecT:=zu 1 (LQ.kp 0 0 (LQ.v (Par.ofLP zagr) (LP.q providerL))) 2 [.cells 58 97] (u2 zo3) default (LQ.v boolP (LP.q providerL)) 1 [.cells 58 97]
theorem z01:zg Tryz.prog 69 (zue).spec :=
 sK (A:=⟨[],[],[],[[0,3],[0,3,5],[0,3,5,6],[0,3,5,6,28],[0,3,5,6,28,29],[],[0,3,5,6,28,44],[0,3,5,6,48],[0,3,6,7,8],[0,3,6,7,62],[4],[0,3,6],[3,6],[3,6,9,10],[3,6,9,93],[],[0,3,5,6,108],[0,3,6,112],[0,3],[],[4]],[]⟩) zh87 fM Tryz.func69 (c:=(fb Tryz.f69)) (by kernel_rfl) (Lc:=1) trivial _ _ 9 _ _ _ _ _ _ [.pubN 0] (by rintro ⟨a0,a1⟩;kernel_rfl)
def zv88:List (List Nat):=[[1,2,4],[1,2,4,27],[4,5,6],[1,2,4],[1,2,4],[1,2,4,7],[1,2,4,7,8],[1,2,4,7,8,44,45,46],[1,2,4,7,8,44,45,46,47],[1,2,4,7,8,10,44,45,46],[1,2,4,7,8,10,44,45,46,58],[1,2,4,7,8,10,44,45,46],[1,2,4,7,8,44,45,46],[1,2,4,7,8,44,45,46],[1,2,4],[1,2,4,11,12,13],[1,2,4,11,12,13,78],[4,5,6],[1,2,4,12],[1,2,4,12],[1,2,4,12,87],[1,2,4,12,87,88],[1,2,4,12,14,87],[1,2,4,12,87],[1,2,4,12,87],[4,5,6]]
noncomputable def zy88:EnvT:=⟨Tryz.prog,zad [(40,zcj),(68,z2m),(67,z0m),(69,zue),(70,z2k),(71,z2n),(72,zuc)],false⟩
theorem zh88:(zy88).Ok:=zf ⟨zc1,z87,z67,z01,z86,z88,z0z,trivial⟩
def ze6 (x0:Int) (x1:(List Asked)) (x2 x3:Int) (x4 x5:za) (x6:(A2 Bool)) (x7:(List Asked)): Tr ((Int×(List Asked)×Int×Int×za×za×(A2 Bool)×(List Asked))⊕(Int×za×za×(List Asked))) :=
 (.ite (decide (x3 < x2))
  (.guard ((0:Int)≤x3∧x3 < ((Sl.len (.asked x1):Nat):Int))
  (.guard ((0:Int)≤((x1.getD x3.toNat default).C)∧(((x1.getD x3.toNat default).C):Int) < 2)
  (.ite (x6.get ((x1.getD x3.toNat default).C))
   (.ite ((true:Bool))
    (.ite ((true:Bool))
     (.ite ((true:Bool))
      (.guard ((0:Int)≤((x1.getD x3.toNat default).C)∧(((x1.getD x3.toNat default).C):Int) < 2)
      (.guard ((Sl.len (.asked x7)+Sl.len (.asked [(x1.getD x3.toNat default)]))*88≤140737488355328)
      (.leaf (.inl (x0,x1,x2,i64.wrap (x3+1),x4,x5,(x6.set ((x1.getD x3.toNat default).C) true),x7++[(x1.getD x3.toNat default)])))))
      (.leaf (.inl (x0,x1,x2,i64.wrap (x3+1),x4,x5,x6,x7))))
     .fail)
    .fail)
   (.bind (zm1 (x1.getD x3.toNat default) x4) fun v2 =>
   (.ite ((false:Bool)||(!v2.1))
    (.guard ((0:Int)≤((x1.getD x3.toNat default).C)∧(((x1.getD x3.toNat default).C):Int) < 2)
    (.guard ((Sl.len (.asked x7)+Sl.len (.asked [(x1.getD x3.toNat default)]))*88≤140737488355328)
    (.leaf (.inl (x0,x1,x2,i64.wrap (x3+1),v2.2,x5,(x6.set ((x1.getD x3.toNat default).C) true),x7++[(x1.getD x3.toNat default)])))))
    (.leaf (.inl (x0,x1,x2,i64.wrap (x3+1),v2.2,x5,x6,x7))))))))
  (.leaf (.inr (x0,x4,x5,x7))))
def zgu (x0:Int) (x1:(List Asked)) (x2 x3:Int) (x4 x5:za) (x6:(A2 Bool)) (x7:(List Asked)):=zcv (fun s:Int×(List Asked)×Int×Int×za×za×(A2 Bool)×(List Asked)=>(ze6 s.1 s.2.1 s.2.2.1 s.2.2.2.1 s.2.2.2.2.1 s.2.2.2.2.2.1 s.2.2.2.2.2.2.1 s.2.2.2.2.2.2.2).run) (x0,x1,x2,x3,x4,x5,x6,x7)
def za2s:Ann:=⟨[],[],[],zv88,[(23,[9700002])]⟩
def za2t:=EndD.mk (LQ.v intP (LQ.kp 0 0 (LQ.kp 1 0 (LQ.k (LQ.c (.own 3)) (LQ.kp 2 0 (LQ.v zbe (LQ.v intP (LQ.v intP (LQ.seq (LP.q providerL) (LQ.seq (LP.q providerL) (LQ.seq (LP.q (a2L (LP.one boolP))) (Par.q zbe)))))))))))) ⟨[1,2,4,7,8,44,45,46],[.nilown 7 90 (.asked []),.pub 44,.nilsl 44 (.asked [])]⟩ [.cells 58 97,.cells 58 97,.cells 70 2,.rows 90]
def zaqw:=EndD.mk (LQ.v intP (LQ.kp 0 0 (LQ.kp 1 0 (LQ.k (LQ.c (.own 2)) (LQ.seq (LP.q providerL) (LQ.seq (LP.q providerL) (Par.q zbe))))))) ⟨[1,2,4,7],[.nilown 7 90 (.asked [])]⟩ [.cells 58 97,.cells 58 97,.rows 90]
def zauf:St→Option LR:=L1 96 9 0 za2t (.exit 0) zaqw (u8 ze6)
def zs88a:=sub (fb Tryz.f46) [0,1,0,1,1,1,1,1,1]
theorem za2u:zl (zy88).env 0 zs88a zauf :=
 zd1 (A:=za2s) zh88 fM trivial (k:=za5 zs88a) (by kernel_rfl) rfl (by rintro ⟨x0,x1,x2,x3,x4,x5,x6,x7⟩;kernel_rfl)
def ze7 (x0:Int) (x1:(List Int)) (x2:Int) (x3 x4:za): Tr ((Int×(List Int)×Int×za×za)⊕((List Int)×za×za)) :=
 (.ite (decide (x2 < 2))
  (.bind (zi0 x2 x0 x3) fun v6 =>
  (.leaf (.inl (x0,x1,i64.wrap (x2+1),v6,x4))))
  (.leaf (.inr (x1,x3,x4))))
def zki (x0:Int) (x1:(List Int)) (x2:Int) (x3 x4:za):=zcv (fun s:Int×(List Int)×Int×za×za=>(ze7 s.1 s.2.1 s.2.2.1 s.2.2.2.1 s.2.2.2.2).run) (x0,x1,x2,x3,x4)
def za2v:Ann:=⟨[],[],[],zv88,[(23,[9700002])]⟩
def za2w:=EndD.mk (LQ.v intP (LQ.kp 0 0 (LQ.kp 1 0 (LQ.v zt (LQ.v intP (LQ.seq (LP.q providerL) (LP.q providerL))))))) ⟨[1,2,4,12,87],[.pubC 2 96,.pub 12,.nilsl 12 (.ints [])]⟩ [.cells 58 97,.cells 58 97]
def zaqx:=EndD.mk (LQ.kp 0 0 (LQ.kp 1 0 (LQ.v zt (LQ.seq (LP.q providerL) (LP.q providerL))))) ⟨[2,4,12],[.pubC 2 96,.pub 12,.nilsl 12 (.ints [])]⟩ [.cells 58 97,.cells 58 97]
def zaug:St→Option LR:=L1 96 9 0 za2w (.exit 2) zaqx (u5 ze7)
def zs88b:=sub (fb Tryz.f46) [0,1,0,1,1,1,1,1,1,1,1,1,1,1,1]
theorem za2x:zl (zy88).env 0 zs88b zaug :=
 zd1 (A:=za2v) zh88 fM trivial (k:=za5 zs88b) (by kernel_rfl) rfl (by rintro ⟨x0,x1,x2,x3,x4⟩;kernel_rfl)
def zqv (a0:za) (a1:Int): Tr (za×(List Int)×Int) :=
 (.bind (zbl a0) fun v1 =>
 (.ite (((!v1)||(decide (a1 < a0.Time)))||(decide (a1 > 1099511627776)))
  (.leaf (a0,[],2))
  (.guard ((zme a0.Set).isSome=true)
  (.guard ((zns a0.Meter ((zme a0.Set).getD default) a1).isSome=true)
  (.bind (zgu a1 a0.Queue ((a0.Queue.length:Nat):Int) 0 ({ a0 with Height:=i64.wrap (a0.Height+1),Time:=a1,Meter:=((zns a0.Meter ((zme a0.Set).getD default) a1).getD default) }) (default:za) (⟨false,false⟩:(A2 Bool)) []) fun v3 =>
  (.bind (zpu v3.2.1.Stake v3.1) fun v4 =>
  (.ite (v4.2.2 != 0)
   (.leaf ({ v3.2.1 with Queue:=v3.2.2.2 },[],v4.2.2))
   (.bind (zt8 v4.1) fun v5 =>
   (.bind (zki v3.1 v4.2.1 0 ({ v3.2.1 with Stake:=v4.1,Set:=v5,Queue:=v3.2.2.2 }) v3.2.2.1) fun v7 =>
   (.leaf (v7.2.1,v7.1,0)))))))))))
def zcm (a0:za) (a1:Int):=(zqv a0 a1).run
def zv2:SpecT:=zu 0 (LQ.v (Par.ofLP providerL) (Par.q intP)) 2 [] (u2 zqv) default (LQ.v (Par.ofLP providerL) (LQ.v zt (Par.q intP))) 3 []
theorem z2s:zg Tryz.prog 46 (zv2).spec :=
 sK (A:=⟨[([0,1,0,1,1,1,1,1,1],zauf),([0,1,0,1,1,1,1,1,1,1,1,1,1,1,1],zaug)],[],[],zv88,[(23,[9700002])]⟩) zh88 fM Tryz.func46 (c:=(fb Tryz.f46)) (by kernel_rfl) (Lc:=0) ⟨za2u,za2x,trivial⟩ _ _ 9 _ _ _ _ _ _ [.pubB 4,.pub 5] (by rintro ⟨a0,a1⟩;kernel_rfl)
end
