/-
  The functions, each by its tree.
-/
import Derived.Test.YtiacgjebngnddaaGreatXAbC
import Derived.Test.YtiacgjebngnddaaGreatXAbClear
import Derived.Test.YtiacgjebngnddaaGreatXAbInsert
import Derived.Test.YtiacgjebngnddaaGreatXFBank
import Derived.Test.YtiacgjebngnddaaGreatXFCodec
import Derived.Test.YtiacgjebngnddaaGreatXFLine
import Derived.Test.YtiacgjebngnddaaGreatXFRatio
import Derived.Test.YtiacgjebngnddaaGreatXFStakeA
import Derived.Test.YtiacgjebngnddaaGreatXFStakeB
import Derived.Test.YtiacgjebngnddaaGreatXFacts
namespace Go.Proofs.YtiacgjebngnddaaGreat.Ab
open Go Go.RowKit
open Go.IntKind (i64 u64)
set_option maxRecDepth 100000
set_option linter.unusedVariables false
set_option linter.unusedSimpArgs false
noncomputable section
noncomputable def zy67:EnvT:=⟨Tryz.prog,zad [(54,z01),(55,zve)]⟩
theorem zh67:(zy67).Ok:=zf ⟨z7y,zyt,trivial⟩
def zpd  : Tr (za) :=
 (.bind (zsm) fun v1 =>
 (.bind (zod 0 0) fun v2 =>
 (.leaf (⟨0,0,v1,[],(default:Links),v2,[]⟩:za))))
def zne  := (zpd ).run
def zum:SpecT:=zt 0 LQ.nil 0 [] (fun s=>zpd ) default (Par.q (Par.ofLP providerL)) 1 []
theorem z07:zg Tryz.prog 36 (zum).spec :=
 sK (A:=⟨[],[],[],[[0],[0]],[]⟩) zh67 fM Tryz.func36 (c:=(fb Tryz.f36)) (by kernel_rfl) (Lc:=0) trivial _ _ 3 _ _ _ _ _ _ [.pubB 0] (by rintro _;kernel_rfl)
def zv68:List (List Nat):=[[0],[0,5,6,7],[0,5,6,7,8],[0,3,4,5,6,7],[0,5,6,7,44],[2],[0,5,6,7],[2]]
def zgq (x0 x1:(List Power)) (x2 x3:Int): Tr (((List Power)×(List Power)×Int×Int)⊕((Bool)⊕(Unit))) :=
 (.ite (decide (x3 < x2))
  (.guard ((0:Int)≤x3∧x3 < ((Sl.len (.powers x1):Nat):Int))
  (.guard (((decide (x3 > 0))=true→(((decide (((x1.getD x3.toNat default).V) < 0))||(decide (((x1.getD x3.toNat default).V)≥6)))=false→((0:Int)≤(i64.wrap (x3 - 1))∧(i64.wrap (x3 - 1)) < ((Sl.len (.powers x0):Nat):Int))∧True)))
  (.ite (((((decide (((x1.getD x3.toNat default).V) < 0))||(decide (((x1.getD x3.toNat default).V)≥6)))||((decide (x3 > 0))&&(decide (((x0.getD ((i64.wrap (x3 - 1)).toNat) default).V)≥((x1.getD x3.toNat default).V)))))||(decide (((x1.getD x3.toNat default).N) < 1)))||(decide (((x1.getD x3.toNat default).N) > 1125899906842624)))
   (.leaf (.inr (.inl false)))
   (.leaf (.inl (x0,x1,x2,i64.wrap (x3+1)))))))
  (.leaf (.inr (.inr ()))))
def zoj (x0 x1:(List Power)) (x2 x3:Int):=zde (fun s:(List Power)×(List Power)×Int×Int=>(zgq s.1 s.2.1 s.2.2.1 s.2.2.2).run) (x0,x1,x2,x3)
def zax9:Ann:=⟨[],[],[],zv68,[]⟩
def zaya:=EndD.mk (LQ.v zo (LQ.v zo (LQ.v intP (Par.q intP)))) ⟨[0,5,6,7],[.pub 0,.nilsl 0 (.powers []),.pub 5,.nilsl 5 (.powers [])]⟩ []
def zaoo:=EndD.mk (Par.q boolP) ⟨[2],[]⟩ []
def zaop:EndD (Unit):=⟨LQ.nil,⟨[],[]⟩,[]⟩
def zash:St→Option LR:=L2 46 3 0 zaya .ret zaoo (.exit 0) zaop (u4 zgq)
def zs68a:=sub (fb Tryz.f57) [0,1,0,1]
theorem zayb:zq (zyN).env 0 zs68a zash :=
 zou (A:=zax9) zhN fM trivial (k:=zca zs68a) (by kernel_rfl) rfl rfl (by rintro ⟨x0,x1,x2,x3⟩;kernel_rfl)
def zpe (a0:(List Power)): Tr (Bool) :=
 (.two (zoj a0 a0 ((a0.length:Nat):Int) 0) (fun v1 =>
  (.leaf v1)) (fun v2 =>
  (.leaf true)))
def zc8 (a0:(List Power)):=(zpe a0).run
def zun:SpecT:=zt 0 (Par.q zo) 1 [] zpe default (Par.q boolP) 1 []
theorem z08:zg Tryz.prog 57 (zun).spec :=
 sK (A:=⟨[([0,1,0,1],zash)],[],[],zv68,[]⟩) zhN fM Tryz.func57 (c:=(fb Tryz.f57)) (by kernel_rfl) (Lc:=0) ⟨zayb,trivial⟩ _ _ 3 _ _ _ _ _ _ [] (by rintro a0;kernel_rfl)
noncomputable def zy69:EnvT:=⟨Tryz.prog,zad [(29,zkw)]⟩
theorem zh69:(zy69).Ok:=zf ⟨zmf,trivial⟩
def zj3 (a0:Asked) (a1:za): Tr (Bool×za) :=
 (.guard ((((decide (a0.C < 0))||(decide (a0.C≥2)))=false→((0:Int)≤a0.C∧(a0.C:Int) < 2)∧True))
 (.guard (((((decide (a0.C < 0))||(decide (a0.C≥2)))||(!(a1.Links.On.get a0.C)))=false→((zfb a0.P).isSome=true)∧True))
 (.leaf (((((decide (a0.C < 0))||(decide (a0.C≥2)))||(!(a1.Links.On.get a0.C)))||(((zfb a0.P).getD default) != 0))||(a0.P.Kind==1),a1))))
def zi8 (a0:Asked) (a1:za):=(zj3 a0 a1).run
def zp4:SpecT:=zt 1 (LQ.v (Par.ofLP zafi) (LQ.kp 0 0 (LP.q providerL))) 2 [.cells 58 97] (u2 zj3) default (LQ.v boolP (LP.q providerL)) 1 [.cells 58 97]
theorem zw6:zg Tryz.prog 60 (zp4).spec :=
 sK (A:=⟨[],[],[],[[1,2],[3]],[]⟩) zh69 fM Tryz.func60 (c:=(fb Tryz.f60)) (by kernel_rfl) (Lc:=1) trivial _ _ 4 _ _ _ _ _ _ [.pubN 0] (by rintro ⟨a0,a1⟩;kernel_rfl)
def zv70:List (List Nat):=[[0,1],[0,1,7,8],[0,1,7,8,9],[0,1,5,7,8],[0,1,5,7,8,16],[4],[0,1,7,8],[4]]
noncomputable def zy70:EnvT:=⟨Tryz.prog,zad [(60,zp4)]⟩
theorem zh70:(zy70).Ok:=zf ⟨zw6,trivial⟩
def zaa (x0:(List Asked)) (x1 x2:Int) (x3:za): Tr (((List Asked)×Int×Int×za)⊕((Int×za)⊕(za))) :=
 (.ite (decide (x2 < x1))
  (.guard ((0:Int)≤x2∧x2 < ((Sl.len (.asked x0):Nat):Int))
  (.bind (zi8 (x0.getD x2.toNat default) x3) fun v1 =>
  (.ite (v1.1)
   (.leaf (.inr (.inl (x2,v1.2))))
   (.leaf (.inl (x0,x1,i64.wrap (x2+1),v1.2))))))
  (.leaf (.inr (.inr x3))))
def zdf (x0:(List Asked)) (x1 x2:Int) (x3:za):=zde (fun s:(List Asked)×Int×Int×za=>(zaa s.1 s.2.1 s.2.2.1 s.2.2.2).run) (x0,x1,x2,x3)
def zayc:Ann:=⟨[],[],[],zv70,[]⟩
def zayd:=EndD.mk (LQ.v zeg (LQ.k (LQ.c (.fn 60 [.ptr 0 0])) (LQ.v intP (LQ.v intP (LP.q providerL))))) ⟨[0,1,7,8],[.pub 0,.nilsl 0 (.asked [])]⟩ [.cells 58 97]
def zaoq:=EndD.mk (LQ.v intP (LP.q providerL)) ⟨[4],[]⟩ [.cells 58 97]
def zaor:=EndD.mk (LP.q providerL) ⟨[],[]⟩ [.cells 58 97]
def zasi:St→Option LR:=L2 19 3 1 zayd .ret zaoq (.exit 0) zaor (u4 zaa)
def zs70a:=sub (fb Tryz.f92) [0,1,0,1]
theorem zaye:zq (zy70).env 1 zs70a zasi :=
 zou (A:=zayc) zh70 fM trivial (k:=zca zs70a) (by kernel_rfl) rfl rfl (by rintro ⟨x0,x1,x2,x3⟩;kernel_rfl)
def za6 (a0:(List Asked)) (a1:za): Tr (Int×za) :=
 (.two (zdf a0 ((a0.length:Nat):Int) 0 a1) (fun v2 =>
  (.leaf (v2.1,v2.2))) (fun v3 =>
  (.leaf (-1,v3))))
def zb5 (a0:(List Asked)) (a1:za):=(za6 a0 a1).run
def ze0:SpecT:=zt 1 (LQ.v zeg (LQ.k (LQ.c (.fn 60 [.ptr 0 0])) (LP.q providerL))) 2 [.cells 58 97] (u2 za6) default (LQ.v intP (LP.q providerL)) 1 [.cells 58 97]
theorem zj4:zg Tryz.prog 92 (ze0).spec :=
 sK (A:=⟨[([0,1,0,1],zasi)],[],[],zv70,[]⟩) zh70 fM Tryz.func92 (c:=(fb Tryz.f92)) (by kernel_rfl) (Lc:=1) ⟨zaye,trivial⟩ _ _ 3 _ _ _ _ _ _ [.pubN 0] (by rintro ⟨a0,a1⟩;kernel_rfl)
noncomputable def zy71:EnvT:=⟨Tryz.prog,zad [(92,ze0)]⟩
theorem zh71:(zy71).Ok:=zf ⟨zj4,trivial⟩
def zb6 (a0:(List Asked)) (a1:za): Tr (Bool×za) :=
 (.bind (zb5 a0 a1) fun v1 =>
 (.leaf (decide (v1.1≥0),v1.2)))
def zb3 (a0:(List Asked)) (a1:za):=(zb6 a0 a1).run
def zet:SpecT:=zt 1 (LQ.v zeg (LQ.k (LQ.c (.fn 60 [.ptr 0 0])) (LP.q providerL))) 2 [.cells 58 97] (u2 zb6) default (LQ.v boolP (LP.q providerL)) 1 [.cells 58 97]
theorem zjk:zg Tryz.prog 59 (zet).spec :=
 sK (A:=⟨[],[],[],[[0,1],[4]],[]⟩) zh71 fM Tryz.func59 (c:=(fb Tryz.f59)) (by kernel_rfl) (Lc:=1) trivial _ _ 3 _ _ _ _ _ _ [.pubN 0] (by rintro ⟨a0,a1⟩;kernel_rfl)
def zv72:List (List Nat):=[[1],[1,36],[2],[1,38,39],[1,38,39,40],[1,4,38,39],[1,4,38,39,71],[2],[1,4,38,39,73,74,75],[1,4,38,39,73,74,75,76],[1,4,5,6,38,39,73,74,75],[1,4,38,39,73,74,75,99],[2],[1,4,38,39,73,74,75],[1,38,39],[2]]
noncomputable def zy72:EnvT:=⟨Tryz.prog,zad [(56,zof),(57,zun),(58,zjv),(59,zet)]⟩
theorem zh72:(zy72).Ok:=zf ⟨zq3,z08,zkv,zjk,trivial⟩
def zfy (x0:Links) (x1:Int) (x2:(List Int)) (x3 x4:Int) (x5:za) (x6:Link): Tr ((Links×Int×(List Int)×Int×Int×za×Link)⊕((Bool)⊕(Links×Int×za))) :=
 (.ite (decide (x4 < x3))
  (.guard ((0:Int)≤x4∧x4 < ((Sl.len (.ints x2):Nat):Int))
  (.guard (((decide (x4 > 0))=true→(((decide ((x2.getD x4.toNat 0) < 0))||(decide ((x2.getD x4.toNat 0)≥6)))=false→((0:Int)≤(i64.wrap (x4 - 1))∧(i64.wrap (x4 - 1)) < ((Sl.len (.ints x6.Done):Nat):Int))∧True)))
  (.ite (((decide ((x2.getD x4.toNat 0) < 0))||(decide ((x2.getD x4.toNat 0)≥6)))||((decide (x4 > 0))&&(decide ((x6.Done.getD ((i64.wrap (x4 - 1)).toNat) 0)≥(x2.getD x4.toNat 0)))))
   (.leaf (.inr (.inl false)))
   (.leaf (.inl (x0,x1,x2,x3,i64.wrap (x4+1),x5,x6))))))
  (.leaf (.inr (.inr (x0,x1,x5)))))
def znf (x0:Links) (x1:Int) (x2:(List Int)) (x3 x4:Int) (x5:za) (x6:Link):=zde (fun s:Links×Int×(List Int)×Int×Int×za×Link=>(zfy s.1 s.2.1 s.2.2.1 s.2.2.2.1 s.2.2.2.2.1 s.2.2.2.2.2.1 s.2.2.2.2.2.2).run) (x0,x1,x2,x3,x4,x5,x6)
def zayi:Ann:=⟨[],[],[],zv72,[]⟩
def zayj:=EndD.mk (LQ.kp 0 0 (LQ.kp 1 0 (LQ.v (Par.ofLP linksL) (LQ.v intP (LQ.v zf3 (LQ.v intP (LQ.v intP (LQ.seq (LP.q providerL) (LP.q zaqq))))))))) ⟨[1,4,38,39,73,74,75],[.pub 73,.nilsl 73 (.ints [])]⟩ [.cells 58 97,.cells 52 14]
def zaos:=EndD.mk (Par.q boolP) ⟨[2],[]⟩ []
def zaot:=EndD.mk (LQ.kp 0 0 (LQ.v (Par.ofLP linksL) (LQ.v intP (LP.q providerL)))) ⟨[1,38,39],[]⟩ [.cells 58 97]
def zasj:St→Option LR:=L2 107 4 0 zayj .ret zaos (.exit 2) zaot (u7 zfy)
def zs72a:=sub (fb Tryz.f40) [0,1,1,1,0,0,1,1,0,0,1,0,1,1]
theorem zayk:zq (zy72).env 0 zs72a zasj :=
 zou (A:=zayi) zh72 fM trivial (k:=zca zs72a) (by kernel_rfl) rfl rfl (by rintro ⟨x0,x1,x2,x3,x4,x5,x6⟩;kernel_rfl)
def zcp (x0:Links) (x1:Int) (x2:za): Tr ((Links×Int×za)⊕((Bool)⊕(za))) :=
 (.ite (decide (x1 < 2))
  (.guard ((0:Int)≤x1∧(x1:Int) < 2)
  (.guard ((((((x0.On.get x1)&&(x0.Gone.get x1))||(decide ((x0.Base.get x1) < 0)))||(decide ((x0.Base.get x1) > x2.Height)))=false→((zc8 (x0.Told.get x1)).isSome=true)∧True))
  (.guard (((((((x0.On.get x1)&&(x0.Gone.get x1))||(decide ((x0.Base.get x1) < 0)))||(decide ((x0.Base.get x1) > x2.Height)))||(!((zc8 (x0.Told.get x1)).getD default)))=false→((zdv (⟨x0.Said.get x1,x0.Due.get x1,x0.Got.get x1,x0.Closed.get x1⟩:zim)).isSome=true)∧True))
  (.ite ((((((x0.On.get x1)&&(x0.Gone.get x1))||(decide ((x0.Base.get x1) < 0)))||(decide ((x0.Base.get x1) > x2.Height)))||(!((zc8 (x0.Told.get x1)).getD default)))||(!((zdv (⟨x0.Said.get x1,x0.Due.get x1,x0.Got.get x1,x0.Closed.get x1⟩:zim)).getD default)))
   (.leaf (.inr (.inl false)))
   (.two (znf x0 x1 (x0.Done.get x1) (((x0.Done.get x1).length:Nat):Int) 0 x2 (⟨x0.On.get x1,x0.Gone.get x1,x0.Base.get x1,x0.Told.get x1,x0.Fresh.get x1,x0.Done.get x1,(⟨x0.Said.get x1,x0.Due.get x1,x0.Got.get x1,x0.Closed.get x1⟩:zim),(⟨x0.SHeight.get x1,x0.STime.get x1,x0.SSaid.get x1,x0.SGot.get x1⟩:Head)⟩:Link)) (fun v2 =>
    (.leaf (.inr (.inl v2)))) (fun v3 =>
    (.leaf (.inl (v3.1,i64.wrap (v3.2.1+1),v3.2.2)))))))))
  (.leaf (.inr (.inr x2))))
def zh0 (x0:Links) (x1:Int) (x2:za):=zde (fun s:Links×Int×za=>(zcp s.1 s.2.1 s.2.2).run) (x0,x1,x2)
def zayl:Ann:=⟨[([0,1,1,1,0,0,1,1,0,0,1,0,1,1],zasj)],[],[],zv72,[]⟩
def zaym:=EndD.mk (LQ.kp 0 0 (LQ.v (Par.ofLP linksL) (LQ.v intP (LP.q providerL)))) ⟨[1,38,39],[]⟩ [.cells 58 97]
def zaou:=EndD.mk (Par.q boolP) ⟨[2],[]⟩ []
def zaov:=EndD.mk (LQ.kp 0 0 (LP.q providerL)) ⟨[1],[]⟩ [.cells 58 97]
def zask:St→Option LR:=L2 107 4 0 zaym .ret zaou (.exit 0) zaov (u3 zcp)
def zs72b:=sub (fb Tryz.f40) [0,1,0,1,1]
theorem zayn:zq (zy72).env 0 zs72b zask :=
 zou (A:=zayl) zh72 fM ⟨zayk,trivial⟩ (k:=zca zs72b) (by kernel_rfl) rfl rfl (by rintro ⟨x0,x1,x2⟩;kernel_rfl)
def zng (a0:za): Tr (Bool) :=
 (.bind (zi0 a0.Stake) fun v1 =>
 (.guard (((((((!v1)||(decide (a0.Height < 0)))||(decide (a0.Height≥1099511627776)))||(decide (a0.Time < 0)))||(decide (a0.Time > 1099511627776)))=false→((zc8 a0.Set).isSome=true)∧True))
 (.ite ((((((!v1)||(decide (a0.Height < 0)))||(decide (a0.Height≥1099511627776)))||(decide (a0.Time < 0)))||(decide (a0.Time > 1099511627776)))||(!((zc8 a0.Set).getD default)))
  (.leaf false)
  (.two (zh0 a0.Links 0 a0) (fun v4 =>
   (.leaf v4)) (fun v5 =>
   (.bind (zb3 v5.Queue v5) fun v6 =>
   (.leaf (!v6.1))))))))
def zbf (a0:za):=(zng a0).run
def zcf:SpecT:=zt 0 (Par.q (Par.ofLP providerL)) 1 [] zng default (Par.q boolP) 1 []
theorem zcs:zg Tryz.prog 40 (zcf).spec :=
 sK (A:=⟨[([0,1,0,1,1],zask)],[],[],zv72,[]⟩) zh72 fM Tryz.func40 (c:=(fb Tryz.f40)) (by kernel_rfl) (Lc:=0) ⟨zayn,trivial⟩ _ _ 4 _ _ _ _ _ _ [] (by rintro a0;kernel_rfl)
noncomputable def zy73:EnvT:=⟨Tryz.prog,zad [(40,zcf),(41,zrp)]⟩
theorem zh73:(zy73).Ok:=zf ⟨zcs,zx4,trivial⟩
def zh1 (a0:za) (a1 a2 a3:Int): Tr (za×Int) :=
 (.bind (zbf a0) fun v1 =>
 (.ite (!v1)
  (.leaf (a0,2))
  (.bind (zjw a0.Stake a1 a2 a3) fun v2 =>
  (.ite (v2.2 != 0)
   (.leaf (a0,v2.2))
   (.leaf ({ a0 with Stake:=v2.1 },0))))))
def zg0 (a0:za) (a1 a2 a3:Int):=(zh1 a0 a1 a2 a3).run
def znh:SpecT:=zt 0 (LQ.v (Par.ofLP providerL) (LQ.v intP (LQ.v intP (Par.q intP)))) 4 [] (u4 zh1) default (LQ.v (Par.ofLP providerL) (Par.q intP)) 2 []
theorem zt2:zg Tryz.prog 30 (znh).spec :=
 sK (A:=⟨[],[],[],[[1,2,3,4,8],[1,2,3,4,8,14],[8,9],[4,8,10,11],[4,8,10,11,26],[8,9],[4,8],[8,9]],[]⟩) zh73 fM Tryz.func30 (c:=(fb Tryz.f30)) (by kernel_rfl) (Lc:=0) trivial _ _ 5 _ _ _ _ _ _ [.pubB 8] (by rintro ⟨a0,a1,a2,a3⟩;kernel_rfl)
def zv74:List (List Nat):=[[1,2,3,4,5,10],[1,2,3,4,5,10,27],[10,11],[1,2,3,5,10,12],[1,2,3,5,10,12,35],[1,2,3,5,10,12,35,36],[1,2,3,5,10,12,13,35],[1,2,3,5,10,12,13,35,42],[1,2,3,5,10,12,35],[1,2,3,5,10,12,35],[5,10,14,15],[5,10,14,15,61],[10,11],[5,10],[5,10,66],[5,10,66,67],[5,10,16,66],[5,10,66],[5,10,66],[10,11]]
noncomputable def zy74:EnvT:=⟨Tryz.prog,zad [(40,zcf),(42,zog)]⟩
theorem zh74:(zy74).Ok:=zf ⟨zcs,zvi,trivial⟩
def zaw (x0 x1 x2 x3:Int) (x4 x5:za) (x6:Wait): Tr ((Int×Int×Int×Int×za×za×Wait)⊕(Int×Int×Int×za×za×Wait)) :=
 (.ite (decide (x3 < 2))
  (.guard ((0:Int)≤x3∧(x3:Int) < 2)
  (.ite (x4.Links.On.get x3)
   (.guard ((0:Int)≤x3∧(x3:Int) < 2)
   (.leaf (.inl (x0,x1,x2,i64.wrap (x3+1),x4,x5,{ (x6:Wait) with h0:=if x3=0 then i64.wrap (x4.Height+1) else x6.h0,h1:=if x3=1 then i64.wrap (x4.Height+1) else x6.h1 }))))
   (.leaf (.inl (x0,x1,x2,i64.wrap (x3+1),x4,x5,x6)))))
  (.leaf (.inr (x0,x1,x2,x4,x5,x6))))
def zd8 (x0 x1 x2 x3:Int) (x4 x5:za) (x6:Wait):=zde (fun s:Int×Int×Int×Int×za×za×Wait=>(zaw s.1 s.2.1 s.2.2.1 s.2.2.2.1 s.2.2.2.2.1 s.2.2.2.2.2.1 s.2.2.2.2.2.2).run) (x0,x1,x2,x3,x4,x5,x6)
def zayr:Ann:=⟨[],[],[],zv74,[]⟩
def zays:=EndD.mk (LQ.v intP (LQ.v intP (LQ.v intP (LQ.kp 0 0 (LQ.kp 1 0 (LQ.kp 2 0 (LQ.v intP (LQ.seq (LP.q providerL) (LQ.seq (LP.q providerL) (LP.q zam2)))))))))) ⟨[1,2,3,5,10,12,35],[]⟩ [.cells 58 97,.cells 58 97,.cells 78 8]
def zaow:=EndD.mk (LQ.v intP (LQ.v intP (LQ.v intP (LQ.kp 0 0 (LQ.kp 1 0 (LQ.kp 2 0 (LQ.seq (LP.q providerL) (LQ.seq (LP.q providerL) (LP.q zam2))))))))) ⟨[1,2,3,5,10,12],[]⟩ [.cells 58 97,.cells 58 97,.cells 78 8]
def zasl:St→Option LR:=L1 87 6 0 zays (.exit 0) zaow (u7 zaw)
def zs74a:=sub (fb Tryz.f31) [0,1,0,1,1,1]
theorem zayt:zq (zy74).env 0 zs74a zasl :=
 zgy (A:=zayr) zh74 fM trivial (k:=zca zs74a) (by kernel_rfl) rfl (by rintro ⟨x0,x1,x2,x3,x4,x5,x6⟩;kernel_rfl)
def zax (x0:Int) (x1 x2:za): Tr ((Int×za×za)⊕(za×za)) :=
 (.ite (decide (x0 < 2))
  (.guard ((0:Int)≤x0∧(x0:Int) < 2)
  (.guard (((x1.Links.Fresh.get x0)=false→((0:Int)≤x0∧(x0:Int) < 2)∧True))
  (.guard ((0:Int)≤x0∧(x0:Int) < 2)
  (.leaf (.inl (i64.wrap (x0+1),{ x1 with Links:={ x1.Links with Fresh:=(x1.Links.Fresh.set x0 ((x1.Links.Fresh.get x0)||(x1.Links.On.get x0))) } },x2))))))
  (.leaf (.inr (x1,x2))))
def zhj (x0:Int) (x1 x2:za):=zde (fun s:Int×za×za=>(zax s.1 s.2.1 s.2.2).run) (x0,x1,x2)
def zayu:Ann:=⟨[],[],[],zv74,[]⟩
def zayv:=EndD.mk (LQ.kp 0 0 (LQ.kp 1 0 (LQ.v intP (LQ.seq (LP.q providerL) (LP.q providerL))))) ⟨[5,10,66],[]⟩ [.cells 58 97,.cells 58 97]
def zaox:=EndD.mk (LQ.kp 0 0 (LQ.kp 1 0 (LQ.seq (LP.q providerL) (LP.q providerL)))) ⟨[5,10],[]⟩ [.cells 58 97,.cells 58 97]
def zasm:St→Option LR:=L1 87 6 0 zayv (.exit 2) zaox (u3 zax)
def zs74b:=sub (fb Tryz.f31) [0,1,0,1,1,1,1,1,1,1]
theorem zayw:zq (zy74).env 0 zs74b zasm :=
 zgy (A:=zayu) zh74 fM trivial (k:=zca zs74b) (by kernel_rfl) rfl (by rintro ⟨x0,x1,x2⟩;kernel_rfl)
def zga (a0:za) (a1 a2 a3 a4:Int): Tr (za×Int) :=
 (.bind (zbf a0) fun v1 =>
 (.ite (((!v1)||(decide (a4 < 0)))||(decide (a4 > 1099511627776)))
  (.leaf (a0,2))
  (.bind (zd8 a1 a2 a3 0 a0 (default:za) (⟨0,0,0,0,i64.wrap (a0.Height+1),i64.wrap (a4+20),0,0⟩:Wait)) fun v2 =>
  (.bind (zhx v2.2.2.2.1.Stake v2.1 v2.2.1 v2.2.2.1 v2.2.2.2.2.2) fun v3 =>
  (.ite (v3.2 != 0)
   (.leaf (v2.2.2.2.1,v3.2))
   (.bind (zhj 0 ({ v2.2.2.2.1 with Stake:=v3.1 }) v2.2.2.2.2.1) fun v4 =>
   (.leaf (v4.1,0))))))))
def za9 (a0:za) (a1 a2 a3 a4:Int):=(zga a0 a1 a2 a3 a4).run
def zkz:SpecT:=zt 0 (LQ.v (Par.ofLP providerL) (LQ.v intP (LQ.v intP (LQ.v intP (Par.q intP))))) 5 [] (u5 zga) default (LQ.v (Par.ofLP providerL) (Par.q intP)) 2 []
theorem zrx:zg Tryz.prog 31 (zkz).spec :=
 sK (A:=⟨[([0,1,0,1,1,1],zasl),([0,1,0,1,1,1,1,1,1,1],zasm)],[],[],zv74,[]⟩) zh74 fM Tryz.func31 (c:=(fb Tryz.f31)) (by kernel_rfl) (Lc:=0) ⟨zayt,zayw,trivial⟩ _ _ 6 _ _ _ _ _ _ [.pubB 10] (by rintro ⟨a0,a1,a2,a3,a4⟩;kernel_rfl)
def zv75:List (List Nat):=[[1,2,4],[1,2,4,8],[4,5],[1,2,4,13],[4,5],[1,2,4,21],[4,5],[1,2,4,28],[4,5],[1,2,4,35],[4,5],[1,2,4],[1,2,4],[1,2,4,64,65],[1,2,4,64,65,66],[1,2,4,6,64,65],[1,2,4,7,64,65],[1,2,4,7,64,65,79],[1,2,4,64,65],[1,2,4,64,65],[1,2,4,64,65],[4,5]]
noncomputable def zy75:EnvT:=⟨Tryz.prog,zad [(40,zcf),(73,zdm),(64,zbm)]⟩
theorem zh75:(zy75).Ok:=zf ⟨zcs,zf5,zcm,trivial⟩
def zc9 (x0 x1 x2:Int) (x3 x4:za): Tr ((Int×Int×Int×za×za)⊕(za×za)) :=
 (.ite (decide (x2 < x1))
  (.guard ((0:Int)≤x2∧x2 < ((Sl.len (.waits x3.Stake.Waits):Nat):Int))
  (.ite (decide (((x3.Stake.Waits.getD x2.toNat default).Height) > x3.Height))
   (.guard ((0:Int)≤x0∧(x0:Int) < 2)
   (.guard ((0:Int)≤x0∧(x0:Int) < 2)
   (.leaf (.inl (x0,x1,i64.wrap (x2+1),{ x3 with Stake:={ x3.Stake with Waits:=x3.Stake.Waits.set x2.toNat ({ ((x3.Stake.Waits.getD x2.toNat default):Wait) with h0:=if x0=0 then (x3.Stake.Waits.getD x2.toNat default).Height else (x3.Stake.Waits.getD x2.toNat default).h0,h1:=if x0=1 then (x3.Stake.Waits.getD x2.toNat default).Height else (x3.Stake.Waits.getD x2.toNat default).h1 }) },Links:={ x3.Links with Fresh:=(x3.Links.Fresh.set x0 true) } },x4)))))
   (.leaf (.inl (x0,x1,i64.wrap (x2+1),x3,x4)))))
  (.leaf (.inr (x3,x4))))
def zg1 (x0 x1 x2:Int) (x3 x4:za):=zde (fun s:Int×Int×Int×za×za=>(zc9 s.1 s.2.1 s.2.2.1 s.2.2.2.1 s.2.2.2.2).run) (x0,x1,x2,x3,x4)
def zayx:Ann:=⟨[],[],[],zv75,[]⟩
def zayy:=EndD.mk (LQ.map (LQ.v intP (LQ.kp 0 0 (LQ.kp 1 0 (LQ.v intP (LQ.v intP (LQ.v intP (LQ.v intP (LQ.seq (LP.q bankL) (LQ.seq (LP.q validatorsL) (LQ.seq (LP.q (a4L (a6L (LP.one intP)))) (LQ.k (LQ.c (.own 2)) (LQ.v intP (LQ.v zo (LQ.seq (LP.q linksL) (LQ.seq (LP.q meterL) (LQ.v zeg (LQ.seq (LP.q providerL) (Par.q zjl)))))))))))))))))) (fun x=>(x.1,x.2.1,x.2.2.1,(⟨x.2.2.2.1,(d4 x).1,(⟨(d4 x).2.1,(d4 x).2.2.1,(d4 x).2.2.2.1,(d12 x).2.2,(d8 x).1⟩:Stake),(d8 x).2.1,(d8 x).2.2.1,(d8 x).2.2.2.1,(d12 x).1⟩:za),(d12 x).2.1)) (fun y=>(y.1,y.2.1,y.2.2.1,y.2.2.2.1.Height,y.2.2.2.1.Time,y.2.2.2.1.Stake.Bank,y.2.2.2.1.Stake.Validators,y.2.2.2.1.Stake.Shares,y.2.2.2.1.Stake.Next,y.2.2.2.1.Set,y.2.2.2.1.Links,y.2.2.2.1.Meter,y.2.2.2.1.Queue,(d4 y),y.2.2.2.1.Stake.Waits)) (fun _=>rfl)) ⟨[1,2,4,64,65],[.nilcell 2 63 78 (.waits [])]⟩ [.cells 58 97,.cells 58 97,.rows 78]
def zaoy:=EndD.mk (LQ.map (LQ.kp 0 0 (LQ.kp 1 0 (LQ.v intP (LQ.v intP (LQ.seq (LP.q bankL) (LQ.seq (LP.q validatorsL) (LQ.seq (LP.q (a4L (a6L (LP.one intP)))) (LQ.k (LQ.c (.own 2)) (LQ.v intP (LQ.v zo (LQ.seq (LP.q linksL) (LQ.seq (LP.q meterL) (LQ.v zeg (LQ.seq (LP.q providerL) (Par.q zjl))))))))))))))) (fun x=>((⟨x.1,x.2.1,(⟨x.2.2.1,x.2.2.2.1,(d4 x).1,(d8 x).2.2.2,(d4 x).2.1⟩:Stake),(d4 x).2.2.1,(d4 x).2.2.2.1,(d8 x).1,(d8 x).2.1⟩:za),(d8 x).2.2.1)) (fun y=>(y.1.Height,y.1.Time,y.1.Stake.Bank,y.1.Stake.Validators,y.1.Stake.Shares,y.1.Stake.Next,y.1.Set,y.1.Links,y.1.Meter,y.1.Queue,y.2,y.1.Stake.Waits)) (fun _=>rfl)) ⟨[2,4],[.nilcell 2 63 78 (.waits [])]⟩ [.cells 58 97,.cells 58 97,.rows 78]
def zasn:St→Option LR:=L1 95 5 0 zayy (.exit 1) zaoy (u5 zc9)
def zs75a:=sub (fb Tryz.f47) [0,1,0,1,1,1,1]
theorem zayz:zq (zy75).env 0 zs75a zasn :=
 zgy (A:=zayx) zh75 fM trivial (k:=zca zs75a) (by kernel_rfl) rfl (by rintro ⟨x0,x1,x2,x3,x4⟩;kernel_rfl)
def zlk (a0:za) (a1:Int): Tr (za×Int) :=
 (.bind (zbf a0) fun v1 =>
 (.ite (!v1)
  (.leaf (a0,2))
  (.ite ((decide (a1 < 0))||(decide (a1≥2)))
   (.leaf (a0,4))
   (.guard ((0:Int)≤a1∧(a1:Int) < 2)
   (.ite (a0.Links.Gone.get a1)
    (.leaf (a0,11))
    (.guard ((0:Int)≤a1∧(a1:Int) < 2)
    (.ite (a0.Links.On.get a1)
     (.leaf (a0,5))
     (.ite ((decide (a0.Height < 1))||(((a0.Set.length:Nat):Int)==0))
      (.leaf (a0,13))
      (.guard ((zai a0.Set).isSome=true)
      (.guard ((0:Int)≤a1∧(a1:Int) < 2)
      (.bind (zr a0.Stake.Waits) fun v2 =>
      (.bind (zg1 a1 ((v2.length:Nat):Int) 0 ({ a0 with Stake:={ a0.Stake with Waits:=v2 },Links:=(⟨(a0.Links.On.set a1 true),(a0.Links.Gone.set a1 false),(a0.Links.Base.set a1 a0.Height),(a0.Links.Told.set a1 ((zai a0.Set).getD default)),(a0.Links.Fresh.set a1 false),(a0.Links.Done.set a1 []),(a0.Links.Said.set a1 []),(a0.Links.Due.set a1 []),(a0.Links.Got.set a1 0),(a0.Links.Closed.set a1 false),(a0.Links.SHeight.set a1 0),(a0.Links.STime.set a1 0),(a0.Links.SSaid.set a1 0),(a0.Links.SGot.set a1 0)⟩:Links) }) (default:za)) fun v3 =>
      (.leaf (v3.1,0))))))))))))))
def zaj (a0:za) (a1:Int):=(zlk a0 a1).run
def zrt:SpecT:=zt 0 (LQ.v (Par.ofLP providerL) (Par.q intP)) 2 [] (u2 zlk) default (LQ.v (Par.ofLP providerL) (Par.q intP)) 2 []
theorem zx6:zg Tryz.prog 47 (zrt).spec :=
 sK (A:=⟨[([0,1,0,1,1,1,1],zasn)],[],[],zv75,[]⟩) zh75 fM Tryz.func47 (c:=(fb Tryz.f47)) (by kernel_rfl) (Lc:=0) ⟨zayz,trivial⟩ _ _ 5 _ _ _ _ _ _ [.pubB 4] (by rintro ⟨a0,a1⟩;kernel_rfl)
def zh2 (a0:Asked) (a1:Int): Tr (Bool×Int) :=
 (.leaf (a0.C==a1,a1))
def zee (a0:Asked) (a1:Int):=(zh2 a0 a1).run
def zh7:SpecT:=zt 1 (LQ.v (Par.ofLP zafi) (LQ.kp 0 0 (Par.q intP))) 2 [.cells 3 1] (u2 zh2) default (LQ.v boolP (Par.q intP)) 1 [.cells 3 1]
theorem zlt:zg Tryz.prog 121 (zh7).spec :=
 sK (A:=⟨[],[],[],[[1,2],[3]],[]⟩) zhN fM Tryz.func121 (c:=(fb Tryz.f121)) (by kernel_rfl) (Lc:=1) trivial _ _ 4 _ _ _ _ _ _ [] (by rintro ⟨a0,a1⟩;kernel_rfl)
def zv77:List (List Nat):=[[0,1],[0,1,7,8],[0,1,7,8,9],[0,1,5,7,8],[0,1,5,7,8,16],[4],[0,1,7,8],[4]]
noncomputable def zy77:EnvT:=⟨Tryz.prog,zad [(121,zh7)]⟩
theorem zh77:(zy77).Ok:=zf ⟨zlt,trivial⟩
def zab (x0 x1 x2:Int) (x3:(List Asked)): Tr ((Int×Int×Int×(List Asked))⊕((Int×Int×(List Asked))⊕(Int×(List Asked)))) :=
 (.ite (decide (x1 < x0))
  (.guard ((0:Int)≤x1∧x1 < ((Sl.len (.asked x3):Nat):Int))
  (.bind (zee (x3.getD x1.toNat default) x2) fun v1 =>
  (.ite (v1.1)
   (.leaf (.inr (.inl (x1,v1.2,x3))))
   (.leaf (.inl (x0,i64.wrap (x1+1),v1.2,x3))))))
  (.leaf (.inr (.inr (x2,x3)))))
def zbl (x0 x1 x2:Int) (x3:(List Asked)):=zde (fun s:Int×Int×Int×(List Asked)=>(zab s.1 s.2.1 s.2.2.1 s.2.2.2).run) (x0,x1,x2,x3)
def zay0:Ann:=⟨[],[],[],zv77,[]⟩
def zay1:=EndD.mk (LQ.k (LQ.c (.own 1)) (LQ.k (LQ.c (.fn 121 [.ptr 0 0])) (LQ.v intP (LQ.v intP (LQ.v intP (Par.q zeg)))))) ⟨[0,1,7,8],[.nilown 0 90 (.asked [])]⟩ [.cells 3 1,.rows 90]
def zaoz:=EndD.mk (LQ.v intP (LQ.v intP (Par.q zeg))) ⟨[4],[]⟩ [.cells 3 1,.rows 90]
def zao0:=EndD.mk (LQ.v intP (Par.q zeg)) ⟨[],[]⟩ [.cells 3 1,.rows 90]
def zaso:St→Option LR:=L2 19 4 2 zay1 .ret zaoz (.exit 0) zao0 (u4 zab)
def zs77a:=sub (fb Tryz.f92) [0,1,0,1]
theorem zay2:zq (zy77).env 2 zs77a zaso :=
 zou (A:=zay0) zh77 fM trivial (k:=zca zs77a) (by kernel_rfl) rfl rfl (by rintro ⟨x0,x1,x2,x3⟩;kernel_rfl)
def zcg (a0:Int) (a1:(List Asked)): Tr (Int×Int×(List Asked)) :=
 (.two (zbl ((a1.length:Nat):Int) 0 a0 a1) (fun v2 =>
  (.leaf (v2.1,v2.2.1,v2.2.2))) (fun v3 =>
  (.leaf (-1,v3.1,v3.2))))
def za2 (a0:Int) (a1:(List Asked)):=(zcg a0 a1).run
def ze1:SpecT:=zt 2 (LQ.k (LQ.c (.own 1)) (LQ.k (LQ.c (.fn 121 [.ptr 0 0])) (LQ.v intP (Par.q zeg)))) 2 [.cells 3 1,.rows 90] (u2 zcg) default (LQ.v intP (LQ.v intP (Par.q zeg))) 1 [.cells 3 1,.rows 90]
theorem zj5:zg Tryz.prog 92 (ze1).spec :=
 sK (A:=⟨[([0,1,0,1],zaso)],[],[],zv77,[]⟩) zh77 fM Tryz.func92 (c:=(fb Tryz.f92)) (by kernel_rfl) (Lc:=2) ⟨zay2,trivial⟩ _ _ 4 _ _ _ _ _ _ [] (by rintro ⟨a0,a1⟩;kernel_rfl)
def zv78:List (List Nat):=[[0,1],[0,1,5],[0,1,5,12],[4],[0,1,5,6],[0,1,5,6,19],[0,1,5,6],[0,1,5,6,7],[0,1,5,6,7,29],[0,1,5,6],[0,1,5,6],[0,5],[4]]
noncomputable def zy78:EnvT:=⟨Tryz.prog,zad [(92,ze1),(121,zh7)]⟩
theorem zh78:(zy78).Ok:=zf ⟨zj5,zlt,trivial⟩
def zasp:St→Option LR:=clearL 0 5 36 37 38
def zs78A:=sub (fb Tryz.f120) [0,1,1,1,1]
theorem zay4:zq (zy78).env 1 zs78A zasp :=
 zajk (T:=56) (E:=90) (z:=(zk Tryz.prog (zeroValue 90)).getD undef) (by kernel_rfl) (by kernel_rfl) (by kernel_rfl) (by kernel_rfl) (by decide) (by decide) (by kernel_rfl) (by kernel_rfl) (by kernel_rfl) (by kernel_rfl)
def zag (x0 x1 x2:Int) (x3:(List Asked)): Tr ((Int×Int×Int×(List Asked))⊕(Int×Int×(List Asked))) :=
 (.ite (decide (x1 < ((x3.length:Nat):Int)))
  (.guard ((0:Int)≤x1∧x1 < ((Sl.len (.asked x3):Nat):Int))
  (.bind (zee (x3.getD x1.toNat default) x2) fun v2 =>
  (.ite (!v2.1)
   (.guard ((0:Int)≤x0∧x0 < ((Sl.len (.asked x3):Nat):Int))
   (.leaf (.inl (i64.wrap (x0+1),i64.wrap (x1+1),v2.2,x3.set x0.toNat (x3.getD x1.toNat default)))))
   (.leaf (.inl (x0,i64.wrap (x1+1),v2.2,x3))))))
  (.leaf (.inr (x0,x2,x3))))
def zbq (x0 x1 x2:Int) (x3:(List Asked)):=zde (fun s:Int×Int×Int×(List Asked)=>(zag s.1 s.2.1 s.2.2.1 s.2.2.2).run) (x0,x1,x2,x3)
def zay5:Ann:=⟨[],[],[],zv78,[]⟩
def zay6:=EndD.mk (LQ.k (LQ.c (.own 1)) (LQ.k (LQ.c (.fn 121 [.ptr 0 0])) (LQ.v intP (LQ.v intP (LQ.v intP (Par.q zeg)))))) ⟨[0,1,5,6],[.nilown 0 90 (.asked [])]⟩ [.cells 3 1,.rows 90]
def zao1:=EndD.mk (LQ.k (LQ.c (.own 1)) (LQ.v intP (LQ.v intP (Par.q zeg)))) ⟨[0,5],[.nilown 0 90 (.asked [])]⟩ [.cells 3 1,.rows 90]
def zasq:St→Option LR:=L1 42 5 1 zay6 (.exit 0) zao1 (u4 zag)
def zs78a:=sub (fb Tryz.f120) [0,1,0,1,1,1]
theorem zay7:zq (zy78).env 1 zs78a zasq :=
 zgy (A:=zay5) zh78 fM trivial (k:=zca zs78a) (by kernel_rfl) rfl (by rintro ⟨x0,x1,x2,x3⟩;kernel_rfl)
def zct (a0:Int) (a1:(List Asked)): Tr (Int×(List Asked)) :=
 (.bind (za2 a0 a1) fun v1 =>
 (.ite (v1.1==(-1))
  (.leaf (v1.2.1,v1.2.2))
  (.bind (zbq v1.1 (i64.wrap (v1.1+1)) v1.2.1 v1.2.2) fun v3 =>
  (.bind (z7a v3.2.2 v3.1) fun v4 =>
  (.guard ((0:Int)≤v3.1∧v3.1≤((Sl.len (.asked v4):Nat):Int))
  (.leaf (v3.2.1,((v4.drop 0).take (v3.1.toNat - 0)))))))))
def zch (a0:Int) (a1:(List Asked)):=(zct a0 a1).run
def zfj:SpecT:=zt 1 (LQ.k (LQ.c (.own 1)) (LQ.k (LQ.c (.fn 121 [.ptr 0 0])) (LQ.v intP (Par.q zeg)))) 2 [.cells 3 1,.rows 90] (u2 zct) default (LQ.k (LQ.c (.own 1)) (LQ.v intP (Par.q zeg))) 1 [.cells 3 1,.rows 90]
theorem zk0:zg Tryz.prog 120 (zfj).spec :=
 sK (A:=⟨[([0,1,0,1,1,1],zasq),([0,1,1,1,1],zasp)],[],[],zv78,[]⟩) zh78 fM Tryz.func120 (c:=(fb Tryz.f120)) (by kernel_rfl) (Lc:=1) ⟨zay7,zay4,trivial⟩ _ _ 5 _ _ _ _ _ _ [.nilown 4 90 (.asked [])] (by rintro ⟨a0,a1⟩;kernel_rfl)
noncomputable def zy79:EnvT:=⟨Tryz.prog,zad [(40,zcf),(101,zm4),(118,zej),(120,zfj)]⟩
theorem zh79:(zy79).Ok:=zf ⟨zcs,zrq,zhd,zk0,trivial⟩
def zj6 (a0:za) (a1:Int): Tr (za) :=
 (.bind (zbf a0) fun v1 =>
 (.guard (((((!v1)||(decide (a1 < 0)))||(decide (a1≥2)))=false→((0:Int)≤a1∧(a1:Int) < 2)∧True))
 (.ite ((((!v1)||(decide (a1 < 0)))||(decide (a1≥2)))||(!(a0.Links.On.get a1)))
  (.leaf a0)
  (.guard ((0:Int)≤a1∧(a1:Int) < 2)
  (.guard ((0:Int)≤a1∧(a1:Int) < 2)
  (.guard ((0:Int)≤a1∧(a1:Int) < 2)
  (.guard ((0:Int)≤a1∧(a1:Int) < 2)
  (.guard ((0:Int)≤a1∧(a1:Int) < 2)
  (.bind (zfe a0.Stake a1 1099511627776) fun v2 =>
  (.bind (zao a0.Queue) fun v3 =>
  (.bind (zch a1 v3) fun v4 =>
  (.leaf ({ a0 with Stake:=v2,Links:={ a0.Links with On:=(a0.Links.On.set a1 false),Gone:=(a0.Links.Gone.set a1 true),Fresh:=(a0.Links.Fresh.set a1 false),Done:=(a0.Links.Done.set a1 []),Closed:=(a0.Links.Closed.set a1 true) },Queue:=v4.2 })))))))))))))
def zcq (a0:za) (a1:Int):=(zj6 a0 a1).run
def zp5:SpecT:=zt 0 (LQ.v (Par.ofLP providerL) (Par.q intP)) 2 [] (u2 zj6) default (Par.q (Par.ofLP providerL)) 1 []
theorem zw7:zg Tryz.prog 83 (zp5).spec :=
 sK (A:=⟨[],[],[],[[2,3,4],[2,3,4,23],[4],[2,3,4],[2,3,4],[2,3,4],[2,4],[4]],[]⟩) zh79 fM Tryz.func83 (c:=(fb Tryz.f83)) (by kernel_rfl) (Lc:=0) trivial _ _ 7 _ _ _ _ _ _ [.pubB 4] (by rintro ⟨a0,a1⟩;kernel_rfl)
noncomputable def zy80:EnvT:=⟨Tryz.prog,zad [(14,zo8),(40,zcf),(118,zej)]⟩
theorem zh80:(zy80).Ok:=zf ⟨zsl,zcs,zhd,trivial⟩
def zni (a0:za) (a1:Int) (a2:ByteArray): Tr (za×Int) :=
 (.bind (zeo a2) fun v1 =>
 (.bind (zbf a0) fun v2 =>
 (.ite (!v2)
  (.leaf (a0,2))
  (.guard ((((decide (a1 < 0))||(decide (a1≥2)))=false→((0:Int)≤a1∧(a1:Int) < 2)∧True))
  (.ite (((decide (a1 < 0))||(decide (a1≥2)))||(!(a0.Links.On.get a1)))
   (.leaf (a0,4))
   (.ite (v1.2 != 0)
    (.leaf (a0,v1.2))
    (.ite (v1.1.Kind==1)
     (.leaf (a0,3))
     (.guard ((zao a0.Queue).isSome=true)
     (.guard ((Sl.len (.asked ((zao a0.Queue).getD default))+Sl.len (.asked [(⟨a1,v1.1⟩:Asked)]))*88≤140737488355328)
     (.leaf ({ a0 with Queue:=((zao a0.Queue).getD default)++[(⟨a1,v1.1⟩:Asked)] },0)))))))))))
def za0 (a0:za) (a1:Int) (a2:ByteArray):=(zni a0 a1 a2).run
def zsx:SpecT:=zt 0 (LQ.v (Par.ofLP providerL) (LQ.v intP (Par.q strP))) 3 [] (u3 zni) default (LQ.v (Par.ofLP providerL) (Par.q intP)) 2 []
theorem zzh:zg Tryz.prog 80 (zsx).spec :=
 sK (A:=⟨[],[],[],[[1,2,3,6],[1,3,6,8,9],[1,3,6,8,9,15],[6,7],[1,3,6,8,9,20],[6,7],[1,3,6,8,9,36],[6,7],[1,3,6,8,41],[6,7],[3,6],[6,7]],[]⟩) zh80 fM Tryz.func80 (c:=(fb Tryz.f80)) (by kernel_rfl) (Lc:=0) trivial _ _ 8 _ _ _ _ _ _ [.pubB 6] (by rintro ⟨a0,a1,a2⟩;kernel_rfl)
noncomputable def zy81:EnvT:=⟨Tryz.prog,zad [(40,zcf),(44,zq6),(45,zsq)]⟩
theorem zh81:(zy81).Ok:=zf ⟨zcs,zuj,zw0,trivial⟩
def zh8 (a0:za) (a1 a2:Int): Tr (za×Int) :=
 (.bind (zbf a0) fun v1 =>
 (.ite (!v1)
  (.leaf (a0,2))
  (.ite ((decide (a1 < 0))||(decide (a1≥6)))
   (.leaf (a0,4))
   (.ite ((decide (a2 < 1))||(decide (a2 > a0.Height)))
    (.leaf (a0,2))
    (.guard ((0:Int)≤a1∧(a1:Int) < 6)
    (.ite (a0.Stake.Validators.Dead.get a1)
     (.leaf (a0,15))
     (.bind (zfn a0.Stake a1 a2 50) fun v2 =>
     (.ite (v2.2.2 != 0)
      (.leaf (a0,v2.2.2))
      (.bind (zi3 v2.1 a1) fun v3 =>
      (.ite (v3.2 != 0)
       (.leaf (a0,v3.2))
       (.leaf ({ a0 with Stake:=v3.1 },0))))))))))))
def zg2 (a0:za) (a1 a2:Int):=(zh8 a0 a1 a2).run
def znj:SpecT:=zt 0 (LQ.v (Par.ofLP providerL) (LQ.v intP (Par.q intP))) 3 [] (u3 zh8) default (LQ.v (Par.ofLP providerL) (Par.q intP)) 2 []
theorem zt3:zg Tryz.prog 33 (znj).spec :=
 sK (A:=⟨[],[],[],[[1,2,3,6],[1,2,3,6,11],[6,7],[1,2,3,6,16],[6,7],[1,2,3,6,24],[6,7],[1,2,3,6,34],[6,7],[1,3,6,8,10],[1,3,6,8,10,52],[6,7],[3,6,8,10],[3,6,8,10,62],[6,7],[3,6],[6,7]],[]⟩) zh81 fM Tryz.func33 (c:=(fb Tryz.f33)) (by kernel_rfl) (Lc:=0) trivial _ _ 5 _ _ _ _ _ _ [.pubB 6] (by rintro ⟨a0,a1,a2⟩;kernel_rfl)
noncomputable def zy82:EnvT:=⟨Tryz.prog,zad [(112,zyx),(113,zkk),(114,zx3),(73,zdm)]⟩
theorem zh82:(zy82).Ok:=zf ⟨z50,zm2,z0x,zf5,trivial⟩
def znk (a0 a1:Int) (a2:za): Tr (za) :=
 (.guard ((0:Int)≤a0∧(a0:Int) < 2)
 (.guard ((zdx (a2.Links.Told.get a0) a2.Set).isSome=true)
 (.ite ((!(a2.Links.On.get a0))||(((((((zdx (a2.Links.Told.get a0) a2.Set).getD default).length:Nat):Int)==0)&&(!(a2.Links.Fresh.get a0)))&&((((a2.Links.Done.get a0).length:Nat):Int)==0)))
  (.leaf a2)
  (.guard ((zba (⟨1,a2.Height,0,0,((zdx (a2.Links.Told.get a0) a2.Set).getD default),a2.Links.Done.get a0⟩:Packet)).isSome=true)
  (.ite ((((zba (⟨1,a2.Height,0,0,((zdx (a2.Links.Told.get a0) a2.Set).getD default),a2.Links.Done.get a0⟩:Packet)).getD default).2) != 0)
   (.leaf a2)
   (.bind (zq1 (⟨a2.Links.Said.get a0,a2.Links.Due.get a0,a2.Links.Got.get a0,a2.Links.Closed.get a0⟩:zim) (((zba (⟨1,a2.Height,0,0,((zdx (a2.Links.Told.get a0) a2.Set).getD default),a2.Links.Done.get a0⟩:Packet)).getD default).1) (i64.wrap (a1+40))) fun v1 =>
   (.ite (v1.2 != 0)
    (.leaf a2)
    (.guard ((zai a2.Set).isSome=true)
    (.leaf ({ a2 with Links:={ a2.Links with Told:=(a2.Links.Told.set a0 ((zai a2.Set).getD default)),Fresh:=(a2.Links.Fresh.set a0 false),Done:=(a2.Links.Done.set a0 []),Said:=(a2.Links.Said.set a0 v1.1.Said),Due:=(a2.Links.Due.set a0 v1.1.Due),Got:=(a2.Links.Got.set a0 v1.1.Got),Closed:=(a2.Links.Closed.set a0 v1.1.Closed) } }))))))))))
def zhs (a0 a1:Int) (a2:za):=(znk a0 a1 a2).run
def zsy:SpecT:=zt 1 (LQ.kp 0 0 (LQ.v intP (LQ.v intP (LP.q providerL)))) 3 [.cells 58 97] (u3 znk) default (LP.q providerL) 0 [.cells 58 97]
theorem zzi:zg Tryz.prog 72 (zsy).spec :=
 sK (A:=⟨[],[],[],[[0,2,6],[0,2,6,7],[0,2,6,7,49],[0,2,6,8,9],[0,2,6,8,65],[0,6,9,10],[0,6,10,78],[]],[]⟩) zh82 fM Tryz.func72 (c:=(fb Tryz.f72)) (by kernel_rfl) (Lc:=1) trivial _ _ 4 _ _ _ _ _ _ [.pubN 0] (by rintro ⟨a0,a1,a2⟩;kernel_rfl)
def znl (a0:Int): Tr (Bool) :=
 (.leaf (a0 != a0))
def zfk (a0:Int):=(znl a0).run
def zsz:SpecT:=zt 0 (Par.q intP) 1 [] znl default (Par.q boolP) 1 []
theorem zzj:zg Tryz.prog 140 (zsz).spec :=
 sK (A:=⟨[],[],[],[[0],[2]],[]⟩) zhN fM Tryz.func140 (c:=(fb Tryz.f140)) (by kernel_rfl) (Lc:=0) trivial _ _ 2 _ _ _ _ _ _ [] (by rintro a0;kernel_rfl)
noncomputable def zy84:EnvT:=⟨Tryz.prog,zad [(140,zsz)]⟩
theorem zh84:(zy84).Ok:=zf ⟨zzj,trivial⟩
def zpf (a0 a1:Int): Tr (Bool) :=
 (.bind (zfk a0) fun v1 =>
 (.guard ((v1=true→((zfk a1).isSome=true)∧True))
 (.leaf ((v1&&(!((zfk a1).getD default)))||(decide (a0 < a1))))))
def znm (a0 a1:Int):=(zpf a0 a1).run
def zuo:SpecT:=zt 0 (LQ.v intP (Par.q intP)) 2 [] (u2 zpf) default (Par.q boolP) 1 []
theorem z09:zg Tryz.prog 126 (zuo).spec :=
 sK (A:=⟨[],[],[],[[0,1],[4]],[]⟩) zh84 fM Tryz.func126 (c:=(fb Tryz.f126)) (by kernel_rfl) (Lc:=0) trivial _ _ 2 _ _ _ _ _ _ [] (by rintro ⟨a0,a1⟩;kernel_rfl)
def zi9 (a0:Int): Tr (Bool) :=
 (.leaf (a0 != a0))
def zbh (a0:Int):=(zi9 a0).run
def zol:SpecT:=zt 0 (Par.q intP) 1 [] zi9 default (Par.q boolP) 1 []
theorem zvm:zg Tryz.prog 127 (zol).spec :=
 sK (A:=⟨[],[],[],[[0],[2]],[]⟩) zhN fM Tryz.func127 (c:=(fb Tryz.f127)) (by kernel_rfl) (Lc:=0) trivial _ _ 2 _ _ _ _ _ _ [] (by rintro a0;kernel_rfl)
def zv86:List (List Nat):=[[0,1],[0,1,6],[0,1,6,7,8],[0,1,6,7,8,15],[0,1,6,7,8,9],[0,1,6,7,8,9,27],[0,1,6,7,8],[0,1,6,7,8],[4,5]]
noncomputable def zy86:EnvT:=⟨Tryz.prog,zad [(126,zuo),(127,zol)]⟩
theorem zh86:(zy86).Ok:=zf ⟨z09,zvm,trivial⟩
def zbj (x0:(List Int)) (x1 x2 x3 x4:Int): Tr (((List Int)×Int×Int×Int×Int)⊕((List Int)×Int×Int×Int)) :=
 (.ite (decide (x3 < x4))
  (.guard ((0:Int)≤1)
  (.guard ((0:Int)≤(i64.wrap (Int.fdiv (u64.wrap (i64.wrap (x3+x4))) (2 ^ 1)))∧(i64.wrap (Int.fdiv (u64.wrap (i64.wrap (x3+x4))) (2 ^ 1))) < ((Sl.len (.ints x0):Nat):Int))
  (.bind (znm (x0.getD ((i64.wrap (Int.fdiv (u64.wrap (i64.wrap (x3+x4))) (2 ^ 1))).toNat) 0) x1) fun v1 =>
  (.ite (v1)
   (.leaf (.inl (x0,x1,x2,i64.wrap ((i64.wrap (Int.fdiv (u64.wrap (i64.wrap (x3+x4))) (2 ^ 1)))+1),x4)))
   (.leaf (.inl (x0,x1,x2,x3,i64.wrap (Int.fdiv (u64.wrap (i64.wrap (x3+x4))) (2 ^ 1)))))))))
  (.leaf (.inr (x0,x1,x2,x3))))
def zfl (x0:(List Int)) (x1 x2 x3 x4:Int):=zde (fun s:(List Int)×Int×Int×Int×Int=>(zbj s.1 s.2.1 s.2.2.1 s.2.2.2.1 s.2.2.2.2).run) (x0,x1,x2,x3,x4)
def zay8:Ann:=⟨[],[],[],zv86,[]⟩
def zay9:=EndD.mk (LQ.v zf3 (LQ.v intP (LQ.v intP (LQ.v intP (Par.q intP))))) ⟨[0,1,6,7,8],[.pub 0,.nilsl 0 (.ints [])]⟩ []
def zao2:=EndD.mk (LQ.v zf3 (LQ.v intP (LQ.v intP (Par.q intP)))) ⟨[0,1,6,7],[.pub 0,.nilsl 0 (.ints [])]⟩ []
def zasr:St→Option LR:=L1 54 2 0 zay9 (.exit 0) zao2 (u5 zbj)
def zs86a:=sub (fb Tryz.f104) [0,0,1,1,1]
theorem zaza:zq (zy86).env 0 zs86a zasr :=
 zgy (A:=zay8) zh86 fM trivial (k:=zca zs86a) (by kernel_rfl) rfl (by rintro ⟨x0,x1,x2,x3,x4⟩;kernel_rfl)
def zd9 (a0:(List Int)) (a1:Int): Tr (Int×Bool) :=
 (.bind (zfl a0 a1 ((a0.length:Nat):Int) 0 ((a0.length:Nat):Int)) fun v2 =>
 (.guard (((decide (v2.2.2.2 < v2.2.2.1))=true→((0:Int)≤v2.2.2.2∧v2.2.2.2 < ((Sl.len (.ints v2.1):Nat):Int))∧True))
 (.guard ((((v2.1.getD v2.2.2.2.toNat 0)==v2.2.1)=false→((decide (v2.2.2.2 < v2.2.2.1))=true→((0:Int)≤v2.2.2.2∧v2.2.2.2 < ((Sl.len (.ints v2.1):Nat):Int))∧True)))
 (.guard ((((v2.1.getD v2.2.2.2.toNat 0)==v2.2.1)=false→((decide (v2.2.2.2 < v2.2.2.1))=true→((zbh (v2.1.getD v2.2.2.2.toNat 0)).isSome=true)∧True)))
 (.guard ((((zbh (v2.1.getD v2.2.2.2.toNat 0)).getD default)=true→(((v2.1.getD v2.2.2.2.toNat 0)==v2.2.1)=false→((decide (v2.2.2.2 < v2.2.2.1))=true→((zbh v2.2.1).isSome=true)∧True))))
 (.leaf (v2.2.2.2,(decide (v2.2.2.2 < v2.2.2.1))&&(((v2.1.getD v2.2.2.2.toNat 0)==v2.2.1)||(((zbh (v2.1.getD v2.2.2.2.toNat 0)).getD default)&&((zbh v2.2.1).getD default))))))))))
def zp (a0:(List Int)) (a1:Int):=(zd9 a0 a1).run
def zhk:SpecT:=zt 0 (LQ.v zf3 (Par.q intP)) 2 [] (u2 zd9) default (LQ.v intP (Par.q boolP)) 2 []
theorem zn3:zg Tryz.prog 104 (zhk).spec :=
 sK (A:=⟨[([0,0,1,1,1],zasr)],[],[],zv86,[]⟩) zh86 fM Tryz.func104 (c:=(fb Tryz.f104)) (by kernel_rfl) (Lc:=0) ⟨zaza,trivial⟩ _ _ 2 _ _ _ _ _ _ [] (by rintro ⟨a0,a1⟩;kernel_rfl)
noncomputable def zy87:EnvT:=⟨Tryz.prog,zad [(101,zm4),(102,zyv),(103,zyw),(104,zhk),(106,ziv),(105,F_slices_Insert_int),(44,zq6),(45,zsq)]⟩
theorem zh87:(zy87).Ok:=zf ⟨zrq,z5y,z5z,zn3,zmz,zt1,zuj,zw0,trivial⟩
def znn (a0:Asked) (a1:za): Tr (Bool×za) :=
 (.guard ((0:Int)≤a0.P.V∧(a0.P.V:Int) < 6)
 (.guard ((0:Int)≤a0.C∧(a0.C:Int) < 2)
 (.ite (a0.P.Kind==2)
  (.guard ((zfe a1.Stake a0.C a0.P.Id).isSome=true)
  (.leaf (true,{ a1 with Stake:=((zfe a1.Stake a0.C a0.P.Id).getD default) })))
  (.ite (a0.P.Kind==3)
   (.ite (!(a1.Stake.Validators.Jailed.get a0.P.V))
    (.guard ((100:Int)≠0)
    (.guard ((zgl a1.Meter (if (i64.wrap (Int.tdiv (a1.Stake.Validators.Tokens.get a0.P.V) 100)) > 1 then (i64.wrap (Int.tdiv (a1.Stake.Validators.Tokens.get a0.P.V) 100)) else 1)).isSome=true)
    (.ite (!(((zgl a1.Meter (if (i64.wrap (Int.tdiv (a1.Stake.Validators.Tokens.get a0.P.V) 100)) > 1 then (i64.wrap (Int.tdiv (a1.Stake.Validators.Tokens.get a0.P.V) 100)) else 1)).getD default).2))
     (.leaf (false,a1))
     (.guard ((zi2 a1.Stake a0.P.V).isSome=true)
     (.guard ((zp (a1.Links.Done.get a0.C) a0.P.V).isSome=true)
     (.ite (!(((zp (a1.Links.Done.get a0.C) a0.P.V).getD default).2))
      (.guard ((z6 (a1.Links.Done.get a0.C)).isSome=true)
      (.guard ((zbu ((z6 (a1.Links.Done.get a0.C)).getD default) (((zp (a1.Links.Done.get a0.C) a0.P.V).getD default).1) [a0.P.V]).isSome=true)
      (.leaf (true,{ a1 with Stake:=(((zi2 a1.Stake a0.P.V).getD default).1),Links:={ a1.Links with Done:=(a1.Links.Done.set a0.C ((zbu ((z6 (a1.Links.Done.get a0.C)).getD default) (((zp (a1.Links.Done.get a0.C) a0.P.V).getD default).1) [a0.P.V]).getD default)) },Meter:=(((zgl a1.Meter (if (i64.wrap (Int.tdiv (a1.Stake.Validators.Tokens.get a0.P.V) 100)) > 1 then (i64.wrap (Int.tdiv (a1.Stake.Validators.Tokens.get a0.P.V) 100)) else 1)).getD default).1) }))))
      (.leaf (true,{ a1 with Stake:=(((zi2 a1.Stake a0.P.V).getD default).1),Meter:=(((zgl a1.Meter (if (i64.wrap (Int.tdiv (a1.Stake.Validators.Tokens.get a0.P.V) 100)) > 1 then (i64.wrap (Int.tdiv (a1.Stake.Validators.Tokens.get a0.P.V) 100)) else 1)).getD default).1) }))))))))
    (.guard ((zp (a1.Links.Done.get a0.C) a0.P.V).isSome=true)
    (.ite (!(((zp (a1.Links.Done.get a0.C) a0.P.V).getD default).2))
     (.guard ((z6 (a1.Links.Done.get a0.C)).isSome=true)
     (.guard ((zbu ((z6 (a1.Links.Done.get a0.C)).getD default) (((zp (a1.Links.Done.get a0.C) a0.P.V).getD default).1) [a0.P.V]).isSome=true)
     (.leaf (true,{ a1 with Links:={ a1.Links with Done:=(a1.Links.Done.set a0.C ((zbu ((z6 (a1.Links.Done.get a0.C)).getD default) (((zp (a1.Links.Done.get a0.C) a0.P.V).getD default).1) [a0.P.V]).getD default)) } }))))
     (.leaf (true,a1)))))
   (.ite (a0.P.Kind==4)
    (.ite (!(a1.Stake.Validators.Dead.get a0.P.V))
     (.guard ((zfn a1.Stake a0.P.V (if (a1.Links.Base.get a0.C) > a0.P.Id then (a1.Links.Base.get a0.C) else a0.P.Id) 50).isSome=true)
     (.guard ((zi3 (((zfn a1.Stake a0.P.V (if (a1.Links.Base.get a0.C) > a0.P.Id then (a1.Links.Base.get a0.C) else a0.P.Id) 50).getD default).1) a0.P.V).isSome=true)
     (.leaf (true,{ a1 with Stake:=(((zi3 (((zfn a1.Stake a0.P.V (if (a1.Links.Base.get a0.C) > a0.P.Id then (a1.Links.Base.get a0.C) else a0.P.Id) 50).getD default).1) a0.P.V).getD default).1) }))))
     (.leaf (true,a1)))
    (.leaf (true,a1)))))))
def zll (a0:Asked) (a1:za):=(znn a0 a1).run
def zs0:SpecT:=zt 1 (LQ.kp 0 0 (LQ.v (Par.ofLP zafi) (LP.q providerL))) 2 [.cells 58 97] (u2 znn) default (LQ.v boolP (LP.q providerL)) 1 [.cells 58 97]
theorem zzk:zg Tryz.prog 69 (zs0).spec :=
 sK (A:=⟨[],[],[],[[0,3],[0,3,5],[0,3,5,6],[0,3,5,6,28],[0,3,5,6,28,29],[],[0,3,5,6,28,44],[0,3,5,6,48],[0,3,6,7,8],[0,3,6,7,62],[4],[0,3,6],[3,6],[3,6,9,10],[3,6,9,93],[],[0,3,5,6,108],[0,3,6,112],[0,3],[],[4]],[]⟩) zh87 fM Tryz.func69 (c:=(fb Tryz.f69)) (by kernel_rfl) (Lc:=1) trivial _ _ 9 _ _ _ _ _ _ [.pubN 0] (by rintro ⟨a0,a1⟩;kernel_rfl)
def zv88:List (List Nat):=[[1,2,4],[1,2,4,27],[4,5,6],[1,2,4],[1,2,4],[1,2,4,7],[1,2,4,7,8],[1,2,4,7,8,44,45,46],[1,2,4,7,8,44,45,46,47],[1,2,4,7,8,10,44,45,46],[1,2,4,7,8,10,44,45,46,58],[1,2,4,7,8,10,44,45,46],[1,2,4,7,8,44,45,46],[1,2,4,7,8,44,45,46],[1,2,4],[1,2,4,11,12,13],[1,2,4,11,12,13,78],[4,5,6],[1,2,4,12],[1,2,4,12],[1,2,4,12,87],[1,2,4,12,87,88],[1,2,4,12,14,87],[1,2,4,12,87],[1,2,4,12,87],[4,5,6]]
noncomputable def zy88:EnvT:=⟨Tryz.prog,zad [(40,zcf),(68,z04),(67,zyu),(69,zs0),(70,z02),(71,z05),(72,zsy)]⟩
theorem zh88:(zy88).Ok:=zf ⟨zcs,z70,z5x,zzk,z7z,z71,zzi,trivial⟩
def zeu (x0:Int) (x1:(List Asked)) (x2 x3:Int) (x4 x5:za) (x6:(A2 Bool)) (x7:(List Asked)): Tr ((Int×(List Asked)×Int×Int×za×za×(A2 Bool)×(List Asked))⊕(Int×za×za×(List Asked))) :=
 (.ite (decide (x3 < x2))
  (.guard ((0:Int)≤x3∧x3 < ((Sl.len (.asked x1):Nat):Int))
  (.guard ((0:Int)≤((x1.getD x3.toNat default).C)∧(((x1.getD x3.toNat default).C):Int) < 2)
  (.ite (x6.get ((x1.getD x3.toNat default).C))
   (.ite ((true:Bool))
    (.ite ((true:Bool))
     (.ite ((true:Bool))
      (.guard ((0:Int)≤((x1.getD x3.toNat default).C)∧(((x1.getD x3.toNat default).C):Int) < 2)
      (.guard ((Sl.len (.asked x7)+Sl.len (.asked [(x1.getD x3.toNat default)]))*88≤140737488355328)
      (.leaf (.inl (x0,x1,x2,i64.wrap (x3+1),x4,x5,(x6.set ((x1.getD x3.toNat default).C) true),x7++[(x1.getD x3.toNat default)])))))
      (.leaf (.inl (x0,x1,x2,i64.wrap (x3+1),x4,x5,x6,x7))))
     .fail)
    .fail)
   (.bind (zll (x1.getD x3.toNat default) x4) fun v2 =>
   (.ite ((false:Bool)||(!v2.1))
    (.guard ((0:Int)≤((x1.getD x3.toNat default).C)∧(((x1.getD x3.toNat default).C):Int) < 2)
    (.guard ((Sl.len (.asked x7)+Sl.len (.asked [(x1.getD x3.toNat default)]))*88≤140737488355328)
    (.leaf (.inl (x0,x1,x2,i64.wrap (x3+1),v2.2,x5,(x6.set ((x1.getD x3.toNat default).C) true),x7++[(x1.getD x3.toNat default)])))))
    (.leaf (.inl (x0,x1,x2,i64.wrap (x3+1),v2.2,x5,x6,x7))))))))
  (.leaf (.inr (x0,x4,x5,x7))))
def zfz (x0:Int) (x1:(List Asked)) (x2 x3:Int) (x4 x5:za) (x6:(A2 Bool)) (x7:(List Asked)):=zde (fun s:Int×(List Asked)×Int×Int×za×za×(A2 Bool)×(List Asked)=>(zeu s.1 s.2.1 s.2.2.1 s.2.2.2.1 s.2.2.2.2.1 s.2.2.2.2.2.1 s.2.2.2.2.2.2.1 s.2.2.2.2.2.2.2).run) (x0,x1,x2,x3,x4,x5,x6,x7)
def zaze:Ann:=⟨[],[],[],zv88,[(23,[9700002])]⟩
def zazf:=EndD.mk (LQ.v intP (LQ.kp 0 0 (LQ.kp 1 0 (LQ.k (LQ.c (.own 3)) (LQ.kp 2 0 (LQ.v zeg (LQ.v intP (LQ.v intP (LQ.seq (LP.q providerL) (LQ.seq (LP.q providerL) (LQ.seq (LP.q (a2L (LP.one boolP))) (Par.q zeg)))))))))))) ⟨[1,2,4,7,8,44,45,46],[.nilown 7 90 (.asked []),.pub 44,.nilsl 44 (.asked [])]⟩ [.cells 58 97,.cells 58 97,.cells 70 2,.rows 90]
def zao3:=EndD.mk (LQ.v intP (LQ.kp 0 0 (LQ.kp 1 0 (LQ.k (LQ.c (.own 2)) (LQ.seq (LP.q providerL) (LQ.seq (LP.q providerL) (Par.q zeg))))))) ⟨[1,2,4,7],[.nilown 7 90 (.asked [])]⟩ [.cells 58 97,.cells 58 97,.rows 90]
def zass:St→Option LR:=L1 96 9 0 zazf (.exit 0) zao3 (u8 zeu)
def zs88a:=sub (fb Tryz.f46) [0,1,0,1,1,1,1,1,1]
theorem zazg:zq (zy88).env 0 zs88a zass :=
 zgy (A:=zaze) zh88 fM trivial (k:=zca zs88a) (by kernel_rfl) rfl (by rintro ⟨x0,x1,x2,x3,x4,x5,x6,x7⟩;kernel_rfl)
def zev (x0:Int) (x1:(List Int)) (x2:Int) (x3 x4:za): Tr ((Int×(List Int)×Int×za×za)⊕((List Int)×za×za)) :=
 (.ite (decide (x2 < 2))
  (.bind (zhs x2 x0 x3) fun v6 =>
  (.leaf (.inl (x0,x1,i64.wrap (x2+1),v6,x4))))
  (.leaf (.inr (x1,x3,x4))))
def zja (x0:Int) (x1:(List Int)) (x2:Int) (x3 x4:za):=zde (fun s:Int×(List Int)×Int×za×za=>(zev s.1 s.2.1 s.2.2.1 s.2.2.2.1 s.2.2.2.2).run) (x0,x1,x2,x3,x4)
def zazh:Ann:=⟨[],[],[],zv88,[(23,[9700002])]⟩
def zazi:=EndD.mk (LQ.v intP (LQ.kp 0 0 (LQ.kp 1 0 (LQ.v zf3 (LQ.v intP (LQ.seq (LP.q providerL) (LP.q providerL))))))) ⟨[1,2,4,12,87],[.pubC 2 96,.pub 12,.nilsl 12 (.ints [])]⟩ [.cells 58 97,.cells 58 97]
def zao4:=EndD.mk (LQ.kp 0 0 (LQ.kp 1 0 (LQ.v zf3 (LQ.seq (LP.q providerL) (LP.q providerL))))) ⟨[2,4,12],[.pubC 2 96,.pub 12,.nilsl 12 (.ints [])]⟩ [.cells 58 97,.cells 58 97]
def zast:St→Option LR:=L1 96 9 0 zazi (.exit 2) zao4 (u5 zev)
def zs88b:=sub (fb Tryz.f46) [0,1,0,1,1,1,1,1,1,1,1,1,1,1,1]
theorem zazj:zq (zy88).env 0 zs88b zast :=
 zgy (A:=zazh) zh88 fM trivial (k:=zca zs88b) (by kernel_rfl) rfl (by rintro ⟨x0,x1,x2,x3,x4⟩;kernel_rfl)
def zpg (a0:za) (a1:Int): Tr (za×(List Int)×Int) :=
 (.bind (zbf a0) fun v1 =>
 (.ite (((!v1)||(decide (a1 < a0.Time)))||(decide (a1 > 1099511627776)))
  (.leaf (a0,[],2))
  (.guard ((zkx a0.Set).isSome=true)
  (.guard ((zme a0.Meter ((zkx a0.Set).getD default) a1).isSome=true)
  (.bind (zfz a1 a0.Queue ((a0.Queue.length:Nat):Int) 0 ({ a0 with Height:=i64.wrap (a0.Height+1),Time:=a1,Meter:=((zme a0.Meter ((zkx a0.Set).getD default) a1).getD default) }) (default:za) (⟨false,false⟩:(A2 Bool)) []) fun v3 =>
  (.bind (zoh v3.2.1.Stake v3.1) fun v4 =>
  (.ite (v4.2.2 != 0)
   (.leaf ({ v3.2.1 with Queue:=v3.2.2.2 },[],v4.2.2))
   (.bind (zsu v4.1) fun v5 =>
   (.bind (zja v3.1 v4.2.1 0 ({ v3.2.1 with Stake:=v4.1,Set:=v5,Queue:=v3.2.2.2 }) v3.2.2.1) fun v7 =>
   (.leaf (v7.2.1,v7.1,0)))))))))))
def zci (a0:za) (a1:Int):=(zpg a0 a1).run
def zup:SpecT:=zt 0 (LQ.v (Par.ofLP providerL) (Par.q intP)) 2 [] (u2 zpg) default (LQ.v (Par.ofLP providerL) (LQ.v zf3 (Par.q intP))) 3 []
theorem z1a:zg Tryz.prog 46 (zup).spec :=
 sK (A:=⟨[([0,1,0,1,1,1,1,1,1],zass),([0,1,0,1,1,1,1,1,1,1,1,1,1,1,1],zast)],[],[],zv88,[(23,[9700002])]⟩) zh88 fM Tryz.func46 (c:=(fb Tryz.f46)) (by kernel_rfl) (Lc:=0) ⟨zazg,zazj,trivial⟩ _ _ 9 _ _ _ _ _ _ [.pubB 4,.pub 5] (by rintro ⟨a0,a1⟩;kernel_rfl)
end
