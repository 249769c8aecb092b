/-
  The functions, each by its tree.
-/
import Derived.Test.YtiacgjebngnddaaGreatXAbC
import Derived.Test.YtiacgjebngnddaaGreatXAbClear
import Derived.Test.YtiacgjebngnddaaGreatXAbInsert
import Derived.Test.YtiacgjebngnddaaGreatXFBank
import Derived.Test.YtiacgjebngnddaaGreatXFCodec
import Derived.Test.YtiacgjebngnddaaGreatXFLine
import Derived.Test.YtiacgjebngnddaaGreatXFRatio
import Derived.Test.YtiacgjebngnddaaGreatXFStakeA
import Derived.Test.YtiacgjebngnddaaGreatXFStakeB
import Derived.Test.YtiacgjebngnddaaGreatXFacts
namespace Go.Proofs.YtiacgjebngnddaaGreat.Ab
open Go Go.RowKit
open Go.IntKind (i64 u64)
set_option maxRecDepth 100000
set_option linter.unusedVariables false
set_option linter.unusedSimpArgs false
noncomputable section
noncomputable def zy67:EnvT:=⟨Tryz.prog,zac [(54,z0c),(55,zux)]⟩
theorem zh67:(zy67).Ok:=zf ⟨z6s,zx5,trivial⟩
def zow  : Tr (za) :=
 (.bind (zr4) fun v1 =>
 (.bind (znv 0 0) fun v2 =>
 (.leaf (⟨0,0,v1,[],(default:Links),v2,[]⟩:za))))
def zmy  := (zow ).run
def zt4:SpecT:=zr 0 LQ.nil 0 [] (fun s=>zow ) default (Par.q (Par.ofLP providerL)) 1 []
theorem z0i:zg Tryz.prog 36 (zt4).spec :=
 sK (A:=⟨[],[],[],[[0],[0]],[]⟩) zh67 fM Tryz.func36 (c:=(fb Tryz.f36)) (by kernel_rfl) (Lc:=0) trivial _ _ 3 _ _ _ _ _ _ [.pubB 0] (by rintro _;kernel_rfl)
def zv68:List (List Nat):=[[0],[0,5,6,7],[0,5,6,7,8],[0,3,4,5,6,7],[0,5,6,7,44],[2],[0,5,6,7],[2]]
def zgi (x0 x1:(List Power)) (x2 x3:Int): Tr (((List Power)×(List Power)×Int×Int)⊕((Bool)⊕(Unit))) :=
 (.ite (decide (x3 < x2))
  (.guard ((0:Int)≤x3∧x3 < ((Sl.len (.powers x1):Nat):Int))
  (.guard (((decide (x3 > 0))=true→(((decide (((x1.getD x3.toNat default).V) < 0))||(decide (((x1.getD x3.toNat default).V)≥6)))=false→((0:Int)≤(i64.wrap (x3 - 1))∧(i64.wrap (x3 - 1)) < ((Sl.len (.powers x0):Nat):Int))∧True)))
  (.ite (((((decide (((x1.getD x3.toNat default).V) < 0))||(decide (((x1.getD x3.toNat default).V)≥6)))||((decide (x3 > 0))&&(decide (((x0.getD ((i64.wrap (x3 - 1)).toNat) default).V)≥((x1.getD x3.toNat default).V)))))||(decide (((x1.getD x3.toNat default).N) < 1)))||(decide (((x1.getD x3.toNat default).N) > 1125899906842624)))
   (.leaf (.inr (.inl false)))
   (.leaf (.inl (x0,x1,x2,i64.wrap (x3+1)))))))
  (.leaf (.inr (.inr ()))))
def zn1 (x0 x1:(List Power)) (x2 x3:Int):=zd3 (fun s:(List Power)×(List Power)×Int×Int=>(zgi s.1 s.2.1 s.2.2.1 s.2.2.2).run) (x0,x1,x2,x3)
def zawa:Ann:=⟨[],[],[],zv68,[]⟩
def zawb:=EndD.mk (LQ.v zn (LQ.v zn (LQ.v intP (Par.q intP)))) ⟨[0,5,6,7],[.pub 0,.nilsl 0 (.powers []),.pub 5,.nilsl 5 (.powers [])]⟩ []
def zamy:=EndD.mk (Par.q boolP) ⟨[2],[]⟩ []
def zamz:EndD (Unit):=⟨LQ.nil,⟨[],[]⟩,[]⟩
def zaqi:St→Option LR:=L2 46 3 0 zawb .ret zamy (.exit 0) zamz (u4 zgi)
def zs68a:=sub (fb Tryz.f57) [0,1,0,1]
theorem zawc:zt (zyN).env 0 zs68a zaqi :=
 zoc (A:=zawa) zhN fM trivial (k:=zch zs68a) (by kernel_rfl) rfl rfl (by rintro ⟨x0,x1,x2,x3⟩;kernel_rfl)
def zox (a0:(List Power)): Tr (Bool) :=
 (.two (zn1 a0 a0 ((a0.length:Nat):Int) 0) (fun v1 =>
  (.leaf v1)) (fun v2 =>
  (.leaf true)))
def zc2 (a0:(List Power)):=(zox a0).run
def zt5:SpecT:=zr 0 (Par.q zn) 1 [] zox default (Par.q boolP) 1 []
theorem z0j:zg Tryz.prog 57 (zt5).spec :=
 sK (A:=⟨[([0,1,0,1],zaqi)],[],[],zv68,[]⟩) zhN fM Tryz.func57 (c:=(fb Tryz.f57)) (by kernel_rfl) (Lc:=0) ⟨zawc,trivial⟩ _ _ 3 _ _ _ _ _ _ [] (by rintro a0;kernel_rfl)
noncomputable def zy69:EnvT:=⟨Tryz.prog,zac [(29,zkn)]⟩
theorem zh69:(zy69).Ok:=zf ⟨zl2,trivial⟩
def zju (a0:Asked) (a1:za): Tr (Bool×za) :=
 (.guard ((((decide (a0.C < 0))||(decide (a0.C≥2)))=false→((0:Int)≤a0.C∧(a0.C:Int) < 2)∧True))
 (.guard (((((decide (a0.C < 0))||(decide (a0.C≥2)))||(!(a1.Links.On.get a0.C)))=false→((ze2 a0.P).isSome=true)∧True))
 (.leaf (((((decide (a0.C < 0))||(decide (a0.C≥2)))||(!(a1.Links.On.get a0.C)))||(((ze2 a0.P).getD default) != 0))||(a0.P.Kind==1),a1))))
def zi0 (a0:Asked) (a1:za):=(zju a0 a1).run
def zpo:SpecT:=zr 1 (LQ.v (Par.ofLP zad3) (LQ.kp 0 0 (LP.q providerL))) 2 [.cells 58 97] (u2 zju) default (LQ.v boolP (LP.q providerL)) 1 [.cells 58 97]
theorem zwn:zg Tryz.prog 60 (zpo).spec :=
 sK (A:=⟨[],[],[],[[1,2],[3]],[]⟩) zh69 fM Tryz.func60 (c:=(fb Tryz.f60)) (by kernel_rfl) (Lc:=1) trivial _ _ 4 _ _ _ _ _ _ [.pubN 0] (by rintro ⟨a0,a1⟩;kernel_rfl)
def zv70:List (List Nat):=[[0,1],[0,1,7,8],[0,1,7,8,9],[0,1,5,7,8],[0,1,5,7,8,16],[4],[0,1,7,8],[4]]
noncomputable def zy70:EnvT:=⟨Tryz.prog,zac [(60,zpo)]⟩
theorem zh70:(zy70).Ok:=zf ⟨zwn,trivial⟩
def z9 (x0:(List Asked)) (x1 x2:Int) (x3:za): Tr (((List Asked)×Int×Int×za)⊕((Int×za)⊕(za))) :=
 (.ite (decide (x2 < x1))
  (.guard ((0:Int)≤x2∧x2 < ((Sl.len (.asked x0):Nat):Int))
  (.bind (zi0 (x0.getD x2.toNat default) x3) fun v1 =>
  (.ite (v1.1)
   (.leaf (.inr (.inl (x2,v1.2))))
   (.leaf (.inl (x0,x1,i64.wrap (x2+1),v1.2))))))
  (.leaf (.inr (.inr x3))))
def zc9 (x0:(List Asked)) (x1 x2:Int) (x3:za):=zd3 (fun s:(List Asked)×Int×Int×za=>(z9 s.1 s.2.1 s.2.2.1 s.2.2.2).run) (x0,x1,x2,x3)
def zawd:Ann:=⟨[],[],[],zv70,[]⟩
def zawe:=EndD.mk (LQ.v zd7 (LQ.k (LQ.c (.fn 60 [.ptr 0 0])) (LQ.v intP (LQ.v intP (LP.q providerL))))) ⟨[0,1,7,8],[.pub 0,.nilsl 0 (.asked [])]⟩ [.cells 58 97]
def zam0:=EndD.mk (LQ.v intP (LP.q providerL)) ⟨[4],[]⟩ [.cells 58 97]
def zam1:=EndD.mk (LP.q providerL) ⟨[],[]⟩ [.cells 58 97]
def zaqj:St→Option LR:=L2 19 3 1 zawe .ret zam0 (.exit 0) zam1 (u4 z9)
def zs70a:=sub (fb Tryz.f92) [0,1,0,1]
theorem zawf:zt (zy70).env 1 zs70a zaqj :=
 zoc (A:=zawd) zh70 fM trivial (k:=zch zs70a) (by kernel_rfl) rfl rfl (by rintro ⟨x0,x1,x2,x3⟩;kernel_rfl)
def za4 (a0:(List Asked)) (a1:za): Tr (Int×za) :=
 (.two (zc9 a0 ((a0.length:Nat):Int) 0 a1) (fun v2 =>
  (.leaf (v2.1,v2.2))) (fun v3 =>
  (.leaf (-1,v3))))
def zb1 (a0:(List Asked)) (a1:za):=(za4 a0 a1).run
def zer:SpecT:=zr 1 (LQ.v zd7 (LQ.k (LQ.c (.fn 60 [.ptr 0 0])) (LP.q providerL))) 2 [.cells 58 97] (u2 za4) default (LQ.v intP (LP.q providerL)) 1 [.cells 58 97]
theorem zjv:zg Tryz.prog 92 (zer).spec :=
 sK (A:=⟨[([0,1,0,1],zaqj)],[],[],zv70,[]⟩) zh70 fM Tryz.func92 (c:=(fb Tryz.f92)) (by kernel_rfl) (Lc:=1) ⟨zawf,trivial⟩ _ _ 3 _ _ _ _ _ _ [.pubN 0] (by rintro ⟨a0,a1⟩;kernel_rfl)
noncomputable def zy71:EnvT:=⟨Tryz.prog,zac [(92,zer)]⟩
theorem zh71:(zy71).Ok:=zf ⟨zjv,trivial⟩
def zb2 (a0:(List Asked)) (a1:za): Tr (Bool×za) :=
 (.bind (zb1 a0 a1) fun v1 =>
 (.leaf (decide (v1.1≥0),v1.2)))
def zby (a0:(List Asked)) (a1:za):=(zb2 a0 a1).run
def zek:SpecT:=zr 1 (LQ.v zd7 (LQ.k (LQ.c (.fn 60 [.ptr 0 0])) (LP.q providerL))) 2 [.cells 58 97] (u2 zb2) default (LQ.v boolP (LP.q providerL)) 1 [.cells 58 97]
theorem zja:zg Tryz.prog 59 (zek).spec :=
 sK (A:=⟨[],[],[],[[0,1],[4]],[]⟩) zh71 fM Tryz.func59 (c:=(fb Tryz.f59)) (by kernel_rfl) (Lc:=1) trivial _ _ 3 _ _ _ _ _ _ [.pubN 0] (by rintro ⟨a0,a1⟩;kernel_rfl)
def zv72:List (List Nat):=[[1],[1,36],[2],[1,38,39],[1,38,39,40],[1,4,38,39],[1,4,38,39,71],[2],[1,4,38,39,73,74,75],[1,4,38,39,73,74,75,76],[1,4,5,6,38,39,73,74,75],[1,4,38,39,73,74,75,99],[2],[1,4,38,39,73,74,75],[1,38,39],[2]]
noncomputable def zy72:EnvT:=⟨Tryz.prog,zac [(56,znx),(57,zt5),(58,zjm),(59,zek)]⟩
theorem zh72:(zy72).Ok:=zf ⟨zqn,z0j,zkm,zja,trivial⟩
def zfs (x0:Links) (x1:Int) (x2:(List Int)) (x3 x4:Int) (x5:za) (x6:Link): Tr ((Links×Int×(List Int)×Int×Int×za×Link)⊕((Bool)⊕(Links×Int×za))) :=
 (.ite (decide (x4 < x3))
  (.guard ((0:Int)≤x4∧x4 < ((Sl.len (.ints x2):Nat):Int))
  (.guard (((decide (x4 > 0))=true→(((decide ((x2.getD x4.toNat 0) < 0))||(decide ((x2.getD x4.toNat 0)≥6)))=false→((0:Int)≤(i64.wrap (x4 - 1))∧(i64.wrap (x4 - 1)) < ((Sl.len (.ints x6.Done):Nat):Int))∧True)))
  (.ite (((decide ((x2.getD x4.toNat 0) < 0))||(decide ((x2.getD x4.toNat 0)≥6)))||((decide (x4 > 0))&&(decide ((x6.Done.getD ((i64.wrap (x4 - 1)).toNat) 0)≥(x2.getD x4.toNat 0)))))
   (.leaf (.inr (.inl false)))
   (.leaf (.inl (x0,x1,x2,x3,i64.wrap (x4+1),x5,x6))))))
  (.leaf (.inr (.inr (x0,x1,x5)))))
def zmz (x0:Links) (x1:Int) (x2:(List Int)) (x3 x4:Int) (x5:za) (x6:Link):=zd3 (fun s:Links×Int×(List Int)×Int×Int×za×Link=>(zfs s.1 s.2.1 s.2.2.1 s.2.2.2.1 s.2.2.2.2.1 s.2.2.2.2.2.1 s.2.2.2.2.2.2).run) (x0,x1,x2,x3,x4,x5,x6)
def zawj:Ann:=⟨[],[],[],zv72,[]⟩
def zawk:=EndD.mk (LQ.kp 0 0 (LQ.kp 1 0 (LQ.v (Par.ofLP linksL) (LQ.v intP (LQ.v zfw (LQ.v intP (LQ.v intP (LQ.seq (LP.q providerL) (LP.q zaor))))))))) ⟨[1,4,38,39,73,74,75],[.pub 73,.nilsl 73 (.ints [])]⟩ [.cells 58 97,.cells 52 14]
def zam2:=EndD.mk (Par.q boolP) ⟨[2],[]⟩ []
def zam3:=EndD.mk (LQ.kp 0 0 (LQ.v (Par.ofLP linksL) (LQ.v intP (LP.q providerL)))) ⟨[1,38,39],[]⟩ [.cells 58 97]
def zaqk:St→Option LR:=L2 107 4 0 zawk .ret zam2 (.exit 2) zam3 (u7 zfs)
def zs72a:=sub (fb Tryz.f40) [0,1,1,1,0,0,1,1,0,0,1,0,1,1]
theorem zawl:zt (zy72).env 0 zs72a zaqk :=
 zoc (A:=zawj) zh72 fM trivial (k:=zch zs72a) (by kernel_rfl) rfl rfl (by rintro ⟨x0,x1,x2,x3,x4,x5,x6⟩;kernel_rfl)
def zcl (x0:Links) (x1:Int) (x2:za): Tr ((Links×Int×za)⊕((Bool)⊕(za))) :=
 (.ite (decide (x1 < 2))
  (.guard ((0:Int)≤x1∧(x1:Int) < 2)
  (.guard ((((((x0.On.get x1)&&(x0.Gone.get x1))||(decide ((x0.Base.get x1) < 0)))||(decide ((x0.Base.get x1) > x2.Height)))=false→((zc2 (x0.Told.get x1)).isSome=true)∧True))
  (.guard (((((((x0.On.get x1)&&(x0.Gone.get x1))||(decide ((x0.Base.get x1) < 0)))||(decide ((x0.Base.get x1) > x2.Height)))||(!((zc2 (x0.Told.get x1)).getD default)))=false→((zdn (⟨x0.Said.get x1,x0.Due.get x1,x0.Got.get x1,x0.Closed.get x1⟩:zid)).isSome=true)∧True))
  (.ite ((((((x0.On.get x1)&&(x0.Gone.get x1))||(decide ((x0.Base.get x1) < 0)))||(decide ((x0.Base.get x1) > x2.Height)))||(!((zc2 (x0.Told.get x1)).getD default)))||(!((zdn (⟨x0.Said.get x1,x0.Due.get x1,x0.Got.get x1,x0.Closed.get x1⟩:zid)).getD default)))
   (.leaf (.inr (.inl false)))
   (.two (zmz x0 x1 (x0.Done.get x1) (((x0.Done.get x1).length:Nat):Int) 0 x2 (⟨x0.On.get x1,x0.Gone.get x1,x0.Base.get x1,x0.Told.get x1,x0.Fresh.get x1,x0.Done.get x1,(⟨x0.Said.get x1,x0.Due.get x1,x0.Got.get x1,x0.Closed.get x1⟩:zid),(⟨x0.SHeight.get x1,x0.STime.get x1,x0.SSaid.get x1,x0.SGot.get x1⟩:z98)⟩:Link)) (fun v2 =>
    (.leaf (.inr (.inl v2)))) (fun v3 =>
    (.leaf (.inl (v3.1,i64.wrap (v3.2.1+1),v3.2.2)))))))))
  (.leaf (.inr (.inr x2))))
def zhs (x0:Links) (x1:Int) (x2:za):=zd3 (fun s:Links×Int×za=>(zcl s.1 s.2.1 s.2.2).run) (x0,x1,x2)
def zawm:Ann:=⟨[([0,1,1,1,0,0,1,1,0,0,1,0,1,1],zaqk)],[],[],zv72,[]⟩
def zawn:=EndD.mk (LQ.kp 0 0 (LQ.v (Par.ofLP linksL) (LQ.v intP (LP.q providerL)))) ⟨[1,38,39],[]⟩ [.cells 58 97]
def zam4:=EndD.mk (Par.q boolP) ⟨[2],[]⟩ []
def zam5:=EndD.mk (LQ.kp 0 0 (LP.q providerL)) ⟨[1],[]⟩ [.cells 58 97]
def zaql:St→Option LR:=L2 107 4 0 zawn .ret zam4 (.exit 0) zam5 (u3 zcl)
def zs72b:=sub (fb Tryz.f40) [0,1,0,1,1]
theorem zawo:zt (zy72).env 0 zs72b zaql :=
 zoc (A:=zawm) zh72 fM ⟨zawl,trivial⟩ (k:=zch zs72b) (by kernel_rfl) rfl rfl (by rintro ⟨x0,x1,x2⟩;kernel_rfl)
def zm0 (a0:za): Tr (Bool) :=
 (.bind (zis a0.Stake) fun v1 =>
 (.guard (((((((!v1)||(decide (a0.Height < 0)))||(decide (a0.Height≥1099511627776)))||(decide (a0.Time < 0)))||(decide (a0.Time > 1099511627776)))=false→((zc2 a0.Set).isSome=true)∧True))
 (.ite ((((((!v1)||(decide (a0.Height < 0)))||(decide (a0.Height≥1099511627776)))||(decide (a0.Time < 0)))||(decide (a0.Time > 1099511627776)))||(!((zc2 a0.Set).getD default)))
  (.leaf false)
  (.two (zhs a0.Links 0 a0) (fun v4 =>
   (.leaf v4)) (fun v5 =>
   (.bind (zby v5.Queue v5) fun v6 =>
   (.leaf (!v6.1))))))))
def zbc (a0:za):=(zm0 a0).run
def zcb:SpecT:=zr 0 (Par.q (Par.ofLP providerL)) 1 [] zm0 default (Par.q boolP) 1 []
theorem zco:zg Tryz.prog 40 (zcb).spec :=
 sK (A:=⟨[([0,1,0,1,1],zaql)],[],[],zv72,[]⟩) zh72 fM Tryz.func40 (c:=(fb Tryz.f40)) (by kernel_rfl) (Lc:=0) ⟨zawo,trivial⟩ _ _ 4 _ _ _ _ _ _ [] (by rintro a0;kernel_rfl)
noncomputable def zy73:EnvT:=⟨Tryz.prog,zac [(40,zcb),(41,zq7)]⟩
theorem zh73:(zy73).Ok:=zf ⟨zco,zxf,trivial⟩
def zht (a0:za) (a1 a2 a3:Int): Tr (za×Int) :=
 (.bind (zbc a0) fun v1 =>
 (.ite (!v1)
  (.leaf (a0,2))
  (.bind (zjn a0.Stake a1 a2 a3) fun v2 =>
  (.ite (v2.2 != 0)
   (.leaf (a0,v2.2))
   (.leaf ({ a0 with Stake:=v2.1 },0))))))
def zgq (a0:za) (a1 a2 a3:Int):=(zht a0 a1 a2 a3).run
def zm1:SpecT:=zr 0 (LQ.v (Par.ofLP providerL) (LQ.v intP (LQ.v intP (Par.q intP)))) 4 [] (u4 zht) default (LQ.v (Par.ofLP providerL) (Par.q intP)) 2 []
theorem ztl:zg Tryz.prog 30 (zm1).spec :=
 sK (A:=⟨[],[],[],[[1,2,3,4,8],[1,2,3,4,8,14],[8,9],[4,8,10,11],[4,8,10,11,26],[8,9],[4,8],[8,9]],[]⟩) zh73 fM Tryz.func30 (c:=(fb Tryz.f30)) (by kernel_rfl) (Lc:=0) trivial _ _ 5 _ _ _ _ _ _ [.pubB 8] (by rintro ⟨a0,a1,a2,a3⟩;kernel_rfl)
def zv74:List (List Nat):=[[1,2,3,4,5,10],[1,2,3,4,5,10,27],[10,11],[1,2,3,5,10,12],[1,2,3,5,10,12,35],[1,2,3,5,10,12,35,36],[1,2,3,5,10,12,13,35],[1,2,3,5,10,12,13,35,42],[1,2,3,5,10,12,35],[1,2,3,5,10,12,35],[5,10,14,15],[5,10,14,15,61],[10,11],[5,10],[5,10,66],[5,10,66,67],[5,10,16,66],[5,10,66],[5,10,66],[10,11]]
noncomputable def zy74:EnvT:=⟨Tryz.prog,zac [(40,zcb),(42,zny)]⟩
theorem zh74:(zy74).Ok:=zf ⟨zco,zu1,trivial⟩
def zau (x0 x1 x2 x3:Int) (x4 x5:za) (x6:Wait): Tr ((Int×Int×Int×Int×za×za×Wait)⊕(Int×Int×Int×za×za×Wait)) :=
 (.ite (decide (x3 < 2))
  (.guard ((0:Int)≤x3∧(x3:Int) < 2)
  (.ite (x4.Links.On.get x3)
   (.guard ((0:Int)≤x3∧(x3:Int) < 2)
   (.leaf (.inl (x0,x1,x2,i64.wrap (x3+1),x4,x5,{ (x6:Wait) with h0:=if x3=0 then i64.wrap (x4.Height+1) else x6.h0,h1:=if x3=1 then i64.wrap (x4.Height+1) else x6.h1 }))))
   (.leaf (.inl (x0,x1,x2,i64.wrap (x3+1),x4,x5,x6)))))
  (.leaf (.inr (x0,x1,x2,x4,x5,x6))))
def zdz (x0 x1 x2 x3:Int) (x4 x5:za) (x6:Wait):=zd3 (fun s:Int×Int×Int×Int×za×za×Wait=>(zau s.1 s.2.1 s.2.2.1 s.2.2.2.1 s.2.2.2.2.1 s.2.2.2.2.2.1 s.2.2.2.2.2.2).run) (x0,x1,x2,x3,x4,x5,x6)
def zaws:Ann:=⟨[],[],[],zv74,[]⟩
def zawt:=EndD.mk (LQ.v intP (LQ.v intP (LQ.v intP (LQ.kp 0 0 (LQ.kp 1 0 (LQ.kp 2 0 (LQ.v intP (LQ.seq (LP.q providerL) (LQ.seq (LP.q providerL) (LP.q zalc)))))))))) ⟨[1,2,3,5,10,12,35],[]⟩ [.cells 58 97,.cells 58 97,.cells 78 8]
def zam6:=EndD.mk (LQ.v intP (LQ.v intP (LQ.v intP (LQ.kp 0 0 (LQ.kp 1 0 (LQ.kp 2 0 (LQ.seq (LP.q providerL) (LQ.seq (LP.q providerL) (LP.q zalc))))))))) ⟨[1,2,3,5,10,12],[]⟩ [.cells 58 97,.cells 58 97,.cells 78 8]
def zaqm:St→Option LR:=L1 87 6 0 zawt (.exit 0) zam6 (u7 zau)
def zs74a:=sub (fb Tryz.f31) [0,1,0,1,1,1]
theorem zawu:zt (zy74).env 0 zs74a zaqm :=
 zhm (A:=zaws) zh74 fM trivial (k:=zch zs74a) (by kernel_rfl) rfl (by rintro ⟨x0,x1,x2,x3,x4,x5,x6⟩;kernel_rfl)
def zav (x0:Int) (x1 x2:za): Tr ((Int×za×za)⊕(za×za)) :=
 (.ite (decide (x0 < 2))
  (.guard ((0:Int)≤x0∧(x0:Int) < 2)
  (.guard (((x1.Links.Fresh.get x0)=false→((0:Int)≤x0∧(x0:Int) < 2)∧True))
  (.guard ((0:Int)≤x0∧(x0:Int) < 2)
  (.leaf (.inl (i64.wrap (x0+1),{ x1 with Links:={ x1.Links with Fresh:=(x1.Links.Fresh.set x0 ((x1.Links.Fresh.get x0)||(x1.Links.On.get x0))) } },x2))))))
  (.leaf (.inr (x1,x2))))
def zg9 (x0:Int) (x1 x2:za):=zd3 (fun s:Int×za×za=>(zav s.1 s.2.1 s.2.2).run) (x0,x1,x2)
def zawv:Ann:=⟨[],[],[],zv74,[]⟩
def zaww:=EndD.mk (LQ.kp 0 0 (LQ.kp 1 0 (LQ.v intP (LQ.seq (LP.q providerL) (LP.q providerL))))) ⟨[5,10,66],[]⟩ [.cells 58 97,.cells 58 97]
def zam7:=EndD.mk (LQ.kp 0 0 (LQ.kp 1 0 (LQ.seq (LP.q providerL) (LP.q providerL)))) ⟨[5,10],[]⟩ [.cells 58 97,.cells 58 97]
def zaqn:St→Option LR:=L1 87 6 0 zaww (.exit 2) zam7 (u3 zav)
def zs74b:=sub (fb Tryz.f31) [0,1,0,1,1,1,1,1,1,1]
theorem zawx:zt (zy74).env 0 zs74b zaqn :=
 zhm (A:=zawv) zh74 fM trivial (k:=zch zs74b) (by kernel_rfl) rfl (by rintro ⟨x0,x1,x2⟩;kernel_rfl)
def zf3 (a0:za) (a1 a2 a3 a4:Int): Tr (za×Int) :=
 (.bind (zbc a0) fun v1 =>
 (.ite (((!v1)||(decide (a4 < 0)))||(decide (a4 > 1099511627776)))
  (.leaf (a0,2))
  (.bind (zdz a1 a2 a3 0 a0 (default:za) (⟨0,0,0,0,i64.wrap (a0.Height+1),i64.wrap (a4+20),0,0⟩:Wait)) fun v2 =>
  (.bind (zhp v2.2.2.2.1.Stake v2.1 v2.2.1 v2.2.2.1 v2.2.2.2.2.2) fun v3 =>
  (.ite (v3.2 != 0)
   (.leaf (v2.2.2.2.1,v3.2))
   (.bind (zg9 0 ({ v2.2.2.2.1 with Stake:=v3.1 }) v2.2.2.2.2.1) fun v4 =>
   (.leaf (v4.1,0))))))))
def za6 (a0:za) (a1 a2 a3 a4:Int):=(zf3 a0 a1 a2 a3 a4).run
def zkq:SpecT:=zr 0 (LQ.v (Par.ofLP providerL) (LQ.v intP (LQ.v intP (LQ.v intP (Par.q intP))))) 5 [] (u5 zf3) default (LQ.v (Par.ofLP providerL) (Par.q intP)) 2 []
theorem zrg:zg Tryz.prog 31 (zkq).spec :=
 sK (A:=⟨[([0,1,0,1,1,1],zaqm),([0,1,0,1,1,1,1,1,1,1],zaqn)],[],[],zv74,[]⟩) zh74 fM Tryz.func31 (c:=(fb Tryz.f31)) (by kernel_rfl) (Lc:=0) ⟨zawu,zawx,trivial⟩ _ _ 6 _ _ _ _ _ _ [.pubB 10] (by rintro ⟨a0,a1,a2,a3,a4⟩;kernel_rfl)
def zv75:List (List Nat):=[[1,2,4],[1,2,4,8],[4,5],[1,2,4,13],[4,5],[1,2,4,21],[4,5],[1,2,4,28],[4,5],[1,2,4,35],[4,5],[1,2,4],[1,2,4],[1,2,4,64,65],[1,2,4,64,65,66],[1,2,4,6,64,65],[1,2,4,7,64,65],[1,2,4,7,64,65,79],[1,2,4,64,65],[1,2,4,64,65],[1,2,4,64,65],[4,5]]
noncomputable def zy75:EnvT:=⟨Tryz.prog,zac [(40,zcb),(73,zde),(64,zbi)]⟩
theorem zh75:(zy75).Ok:=zf ⟨zco,zfy,zci,trivial⟩
def zc3 (x0 x1 x2:Int) (x3 x4:za): Tr ((Int×Int×Int×za×za)⊕(za×za)) :=
 (.ite (decide (x2 < x1))
  (.guard ((0:Int)≤x2∧x2 < ((Sl.len (.waits x3.Stake.Waits):Nat):Int))
  (.ite (decide (((x3.Stake.Waits.getD x2.toNat default).Height) > x3.Height))
   (.guard ((0:Int)≤x0∧(x0:Int) < 2)
   (.guard ((0:Int)≤x0∧(x0:Int) < 2)
   (.leaf (.inl (x0,x1,i64.wrap (x2+1),{ x3 with Stake:={ x3.Stake with Waits:=x3.Stake.Waits.set x2.toNat ({ ((x3.Stake.Waits.getD x2.toNat default):Wait) with h0:=if x0=0 then (x3.Stake.Waits.getD x2.toNat default).Height else (x3.Stake.Waits.getD x2.toNat default).h0,h1:=if x0=1 then (x3.Stake.Waits.getD x2.toNat default).Height else (x3.Stake.Waits.getD x2.toNat default).h1 }) },Links:={ x3.Links with Fresh:=(x3.Links.Fresh.set x0 true) } },x4)))))
   (.leaf (.inl (x0,x1,i64.wrap (x2+1),x3,x4)))))
  (.leaf (.inr (x3,x4))))
def zgr (x0 x1 x2:Int) (x3 x4:za):=zd3 (fun s:Int×Int×Int×za×za=>(zc3 s.1 s.2.1 s.2.2.1 s.2.2.2.1 s.2.2.2.2).run) (x0,x1,x2,x3,x4)
def zawy:Ann:=⟨[],[],[],zv75,[]⟩
def zawz:=EndD.mk (LQ.map (LQ.v intP (LQ.kp 0 0 (LQ.kp 1 0 (LQ.v intP (LQ.v intP (LQ.v intP (LQ.v intP (LQ.seq (LP.q bankL) (LQ.seq (LP.q validatorsL) (LQ.seq (LP.q (a4L (a6L (LP.one intP)))) (LQ.k (LQ.c (.own 2)) (LQ.v intP (LQ.v zn (LQ.seq (LP.q linksL) (LQ.seq (LP.q meterL) (LQ.v zd7 (LQ.seq (LP.q providerL) (Par.q zkg)))))))))))))))))) (fun x=>(x.1,x.2.1,x.2.2.1,(⟨x.2.2.2.1,(d4 x).1,(⟨(d4 x).2.1,(d4 x).2.2.1,(d4 x).2.2.2.1,(d12 x).2.2,(d8 x).1⟩:Stake),(d8 x).2.1,(d8 x).2.2.1,(d8 x).2.2.2.1,(d12 x).1⟩:za),(d12 x).2.1)) (fun y=>(y.1,y.2.1,y.2.2.1,y.2.2.2.1.Height,y.2.2.2.1.Time,y.2.2.2.1.Stake.Bank,y.2.2.2.1.Stake.Validators,y.2.2.2.1.Stake.Shares,y.2.2.2.1.Stake.Next,y.2.2.2.1.Set,y.2.2.2.1.Links,y.2.2.2.1.Meter,y.2.2.2.1.Queue,(d4 y),y.2.2.2.1.Stake.Waits)) (fun _=>rfl)) ⟨[1,2,4,64,65],[.nilcell 2 63 78 (.waits [])]⟩ [.cells 58 97,.cells 58 97,.rows 78]
def zam8:=EndD.mk (LQ.map (LQ.kp 0 0 (LQ.kp 1 0 (LQ.v intP (LQ.v intP (LQ.seq (LP.q bankL) (LQ.seq (LP.q validatorsL) (LQ.seq (LP.q (a4L (a6L (LP.one intP)))) (LQ.k (LQ.c (.own 2)) (LQ.v intP (LQ.v zn (LQ.seq (LP.q linksL) (LQ.seq (LP.q meterL) (LQ.v zd7 (LQ.seq (LP.q providerL) (Par.q zkg))))))))))))))) (fun x=>((⟨x.1,x.2.1,(⟨x.2.2.1,x.2.2.2.1,(d4 x).1,(d8 x).2.2.2,(d4 x).2.1⟩:Stake),(d4 x).2.2.1,(d4 x).2.2.2.1,(d8 x).1,(d8 x).2.1⟩:za),(d8 x).2.2.1)) (fun y=>(y.1.Height,y.1.Time,y.1.Stake.Bank,y.1.Stake.Validators,y.1.Stake.Shares,y.1.Stake.Next,y.1.Set,y.1.Links,y.1.Meter,y.1.Queue,y.2,y.1.Stake.Waits)) (fun _=>rfl)) ⟨[2,4],[.nilcell 2 63 78 (.waits [])]⟩ [.cells 58 97,.cells 58 97,.rows 78]
def zaqo:St→Option LR:=L1 95 5 0 zawz (.exit 1) zam8 (u5 zc3)
def zs75a:=sub (fb Tryz.f47) [0,1,0,1,1,1,1]
theorem zaw0:zt (zy75).env 0 zs75a zaqo :=
 zhm (A:=zawy) zh75 fM trivial (k:=zch zs75a) (by kernel_rfl) rfl (by rintro ⟨x0,x1,x2,x3,x4⟩;kernel_rfl)
def zla (a0:za) (a1:Int): Tr (za×Int) :=
 (.bind (zbc a0) fun v1 =>
 (.ite (!v1)
  (.leaf (a0,2))
  (.ite ((decide (a1 < 0))||(decide (a1≥2)))
   (.leaf (a0,4))
   (.guard ((0:Int)≤a1∧(a1:Int) < 2)
   (.ite (a0.Links.Gone.get a1)
    (.leaf (a0,11))
    (.guard ((0:Int)≤a1∧(a1:Int) < 2)
    (.ite (a0.Links.On.get a1)
     (.leaf (a0,5))
     (.ite ((decide (a0.Height < 1))||(((a0.Set.length:Nat):Int)==0))
      (.leaf (a0,13))
      (.guard ((zah a0.Set).isSome=true)
      (.guard ((0:Int)≤a1∧(a1:Int) < 2)
      (.bind (zq a0.Stake.Waits) fun v2 =>
      (.bind (zgr a1 ((v2.length:Nat):Int) 0 ({ a0 with Stake:={ a0.Stake with Waits:=v2 },Links:=(⟨(a0.Links.On.set a1 true),(a0.Links.Gone.set a1 false),(a0.Links.Base.set a1 a0.Height),(a0.Links.Told.set a1 ((zah a0.Set).getD default)),(a0.Links.Fresh.set a1 false),(a0.Links.Done.set a1 []),(a0.Links.Said.set a1 []),(a0.Links.Due.set a1 []),(a0.Links.Got.set a1 0),(a0.Links.Closed.set a1 false),(a0.Links.SHeight.set a1 0),(a0.Links.STime.set a1 0),(a0.Links.SSaid.set a1 0),(a0.Links.SGot.set a1 0)⟩:Links) }) (default:za)) fun v3 =>
      (.leaf (v3.1,0))))))))))))))
def zai (a0:za) (a1:Int):=(zla a0 a1).run
def zrb:SpecT:=zr 0 (LQ.v (Par.ofLP providerL) (Par.q intP)) 2 [] (u2 zla) default (LQ.v (Par.ofLP providerL) (Par.q intP)) 2 []
theorem zxh:zg Tryz.prog 47 (zrb).spec :=
 sK (A:=⟨[([0,1,0,1,1,1,1],zaqo)],[],[],zv75,[]⟩) zh75 fM Tryz.func47 (c:=(fb Tryz.f47)) (by kernel_rfl) (Lc:=0) ⟨zaw0,trivial⟩ _ _ 5 _ _ _ _ _ _ [.pubB 4] (by rintro ⟨a0,a1⟩;kernel_rfl)
def zhu (a0:Asked) (a1:Int): Tr (Bool×Int) :=
 (.leaf (a0.C==a1,a1))
def zd5 (a0:Asked) (a1:Int):=(zhu a0 a1).run
def zhv:SpecT:=zr 1 (LQ.v (Par.ofLP zad3) (LQ.kp 0 0 (Par.q intP))) 2 [.cells 3 1] (u2 zhu) default (LQ.v boolP (Par.q intP)) 1 [.cells 3 1]
theorem zlk:zg Tryz.prog 121 (zhv).spec :=
 sK (A:=⟨[],[],[],[[1,2],[3]],[]⟩) zhN fM Tryz.func121 (c:=(fb Tryz.f121)) (by kernel_rfl) (Lc:=1) trivial _ _ 4 _ _ _ _ _ _ [] (by rintro ⟨a0,a1⟩;kernel_rfl)
def zv77:List (List Nat):=[[0,1],[0,1,7,8],[0,1,7,8,9],[0,1,5,7,8],[0,1,5,7,8,16],[4],[0,1,7,8],[4]]
noncomputable def zy77:EnvT:=⟨Tryz.prog,zac [(121,zhv)]⟩
theorem zh77:(zy77).Ok:=zf ⟨zlk,trivial⟩
def zaa (x0 x1 x2:Int) (x3:(List Asked)): Tr ((Int×Int×Int×(List Asked))⊕((Int×Int×(List Asked))⊕(Int×(List Asked)))) :=
 (.ite (decide (x1 < x0))
  (.guard ((0:Int)≤x1∧x1 < ((Sl.len (.asked x3):Nat):Int))
  (.bind (zd5 (x3.getD x1.toNat default) x2) fun v1 =>
  (.ite (v1.1)
   (.leaf (.inr (.inl (x1,v1.2,x3))))
   (.leaf (.inl (x0,i64.wrap (x1+1),v1.2,x3))))))
  (.leaf (.inr (.inr (x2,x3)))))
def zbh (x0 x1 x2:Int) (x3:(List Asked)):=zd3 (fun s:Int×Int×Int×(List Asked)=>(zaa s.1 s.2.1 s.2.2.1 s.2.2.2).run) (x0,x1,x2,x3)
def zaw1:Ann:=⟨[],[],[],zv77,[]⟩
def zaw2:=EndD.mk (LQ.k (LQ.c (.own 1)) (LQ.k (LQ.c (.fn 121 [.ptr 0 0])) (LQ.v intP (LQ.v intP (LQ.v intP (Par.q zd7)))))) ⟨[0,1,7,8],[.nilown 0 90 (.asked [])]⟩ [.cells 3 1,.rows 90]
def zam9:=EndD.mk (LQ.v intP (LQ.v intP (Par.q zd7))) ⟨[4],[]⟩ [.cells 3 1,.rows 90]
def zana:=EndD.mk (LQ.v intP (Par.q zd7)) ⟨[],[]⟩ [.cells 3 1,.rows 90]
def zaqp:St→Option LR:=L2 19 4 2 zaw2 .ret zam9 (.exit 0) zana (u4 zaa)
def zs77a:=sub (fb Tryz.f92) [0,1,0,1]
theorem zaw3:zt (zy77).env 2 zs77a zaqp :=
 zoc (A:=zaw1) zh77 fM trivial (k:=zch zs77a) (by kernel_rfl) rfl rfl (by rintro ⟨x0,x1,x2,x3⟩;kernel_rfl)
def zcc (a0:Int) (a1:(List Asked)): Tr (Int×Int×(List Asked)) :=
 (.two (zbh ((a1.length:Nat):Int) 0 a0 a1) (fun v2 =>
  (.leaf (v2.1,v2.2.1,v2.2.2))) (fun v3 =>
  (.leaf (-1,v3.1,v3.2))))
def zaz (a0:Int) (a1:(List Asked)):=(zcc a0 a1).run
def zes:SpecT:=zr 2 (LQ.k (LQ.c (.own 1)) (LQ.k (LQ.c (.fn 121 [.ptr 0 0])) (LQ.v intP (Par.q zd7)))) 2 [.cells 3 1,.rows 90] (u2 zcc) default (LQ.v intP (LQ.v intP (Par.q zd7))) 1 [.cells 3 1,.rows 90]
theorem zjw:zg Tryz.prog 92 (zes).spec :=
 sK (A:=⟨[([0,1,0,1],zaqp)],[],[],zv77,[]⟩) zh77 fM Tryz.func92 (c:=(fb Tryz.f92)) (by kernel_rfl) (Lc:=2) ⟨zaw3,trivial⟩ _ _ 4 _ _ _ _ _ _ [] (by rintro ⟨a0,a1⟩;kernel_rfl)
def zv78:List (List Nat):=[[0,1],[0,1,5],[0,1,5,12],[4],[0,1,5,6],[0,1,5,6,19],[0,1,5,6],[0,1,5,6,7],[0,1,5,6,7,29],[0,1,5,6],[0,1,5,6],[0,5],[4]]
noncomputable def zy78:EnvT:=⟨Tryz.prog,zac [(92,zes),(121,zhv)]⟩
theorem zh78:(zy78).Ok:=zf ⟨zjw,zlk,trivial⟩
def zaqq:St→Option LR:=clearL 0 5 36 37 38
def zs78A:=sub (fb Tryz.f120) [0,1,1,1,1]
theorem zaw5:zt (zy78).env 1 zs78A zaqq :=
 zah3 (T:=56) (E:=90) (z:=(zj Tryz.prog (zeroValue 90)).getD undef) (by kernel_rfl) (by kernel_rfl) (by kernel_rfl) (by kernel_rfl) (by decide) (by decide) (by kernel_rfl) (by kernel_rfl) (by kernel_rfl) (by kernel_rfl)
def zaf (x0 x1 x2:Int) (x3:(List Asked)): Tr ((Int×Int×Int×(List Asked))⊕(Int×Int×(List Asked))) :=
 (.ite (decide (x1 < ((x3.length:Nat):Int)))
  (.guard ((0:Int)≤x1∧x1 < ((Sl.len (.asked x3):Nat):Int))
  (.bind (zd5 (x3.getD x1.toNat default) x2) fun v2 =>
  (.ite (!v2.1)
   (.guard ((0:Int)≤x0∧x0 < ((Sl.len (.asked x3):Nat):Int))
   (.leaf (.inl (i64.wrap (x0+1),i64.wrap (x1+1),v2.2,x3.set x0.toNat (x3.getD x1.toNat default)))))
   (.leaf (.inl (x0,i64.wrap (x1+1),v2.2,x3))))))
  (.leaf (.inr (x0,x2,x3))))
def zbm (x0 x1 x2:Int) (x3:(List Asked)):=zd3 (fun s:Int×Int×Int×(List Asked)=>(zaf s.1 s.2.1 s.2.2.1 s.2.2.2).run) (x0,x1,x2,x3)
def zaw6:Ann:=⟨[],[],[],zv78,[]⟩
def zaw7:=EndD.mk (LQ.k (LQ.c (.own 1)) (LQ.k (LQ.c (.fn 121 [.ptr 0 0])) (LQ.v intP (LQ.v intP (LQ.v intP (Par.q zd7)))))) ⟨[0,1,5,6],[.nilown 0 90 (.asked [])]⟩ [.cells 3 1,.rows 90]
def zanb:=EndD.mk (LQ.k (LQ.c (.own 1)) (LQ.v intP (LQ.v intP (Par.q zd7)))) ⟨[0,5],[.nilown 0 90 (.asked [])]⟩ [.cells 3 1,.rows 90]
def zaqr:St→Option LR:=L1 42 5 1 zaw7 (.exit 0) zanb (u4 zaf)
def zs78a:=sub (fb Tryz.f120) [0,1,0,1,1,1]
theorem zaw8:zt (zy78).env 1 zs78a zaqr :=
 zhm (A:=zaw6) zh78 fM trivial (k:=zch zs78a) (by kernel_rfl) rfl (by rintro ⟨x0,x1,x2,x3⟩;kernel_rfl)
def zcp (a0:Int) (a1:(List Asked)): Tr (Int×(List Asked)) :=
 (.bind (zaz a0 a1) fun v1 =>
 (.ite (v1.1==(-1))
  (.leaf (v1.2.1,v1.2.2))
  (.bind (zbm v1.1 (i64.wrap (v1.1+1)) v1.2.1 v1.2.2) fun v3 =>
  (.bind (z54 v3.2.2 v3.1) fun v4 =>
  (.guard ((0:Int)≤v3.1∧v3.1≤((Sl.len (.asked v4):Nat):Int))
  (.leaf (v3.2.1,((v4.drop 0).take (v3.1.toNat - 0)))))))))
def zcd (a0:Int) (a1:(List Asked)):=(zcp a0 a1).run
def zfc:SpecT:=zr 1 (LQ.k (LQ.c (.own 1)) (LQ.k (LQ.c (.fn 121 [.ptr 0 0])) (LQ.v intP (Par.q zd7)))) 2 [.cells 3 1,.rows 90] (u2 zcp) default (LQ.k (LQ.c (.own 1)) (LQ.v intP (Par.q zd7))) 1 [.cells 3 1,.rows 90]
theorem zkr:zg Tryz.prog 120 (zfc).spec :=
 sK (A:=⟨[([0,1,0,1,1,1],zaqr),([0,1,1,1,1],zaqq)],[],[],zv78,[]⟩) zh78 fM Tryz.func120 (c:=(fb Tryz.f120)) (by kernel_rfl) (Lc:=1) ⟨zaw8,zaw5,trivial⟩ _ _ 5 _ _ _ _ _ _ [.nilown 4 90 (.asked [])] (by rintro ⟨a0,a1⟩;kernel_rfl)
noncomputable def zy79:EnvT:=⟨Tryz.prog,zac [(40,zcb),(101,zmo),(118,zea),(120,zfc)]⟩
theorem zh79:(zy79).Ok:=zf ⟨zco,zq8,zg3,zkr,trivial⟩
def zjx (a0:za) (a1:Int): Tr (za) :=
 (.bind (zbc a0) fun v1 =>
 (.guard (((((!v1)||(decide (a1 < 0)))||(decide (a1≥2)))=false→((0:Int)≤a1∧(a1:Int) < 2)∧True))
 (.ite ((((!v1)||(decide (a1 < 0)))||(decide (a1≥2)))||(!(a0.Links.On.get a1)))
  (.leaf a0)
  (.guard ((0:Int)≤a1∧(a1:Int) < 2)
  (.guard ((0:Int)≤a1∧(a1:Int) < 2)
  (.guard ((0:Int)≤a1∧(a1:Int) < 2)
  (.guard ((0:Int)≤a1∧(a1:Int) < 2)
  (.guard ((0:Int)≤a1∧(a1:Int) < 2)
  (.bind (ze7 a0.Stake a1 1099511627776) fun v2 =>
  (.bind (zan a0.Queue) fun v3 =>
  (.bind (zcd a1 v3) fun v4 =>
  (.leaf ({ a0 with Stake:=v2,Links:={ a0.Links with On:=(a0.Links.On.set a1 false),Gone:=(a0.Links.Gone.set a1 true),Fresh:=(a0.Links.Fresh.set a1 false),Done:=(a0.Links.Done.set a1 []),Closed:=(a0.Links.Closed.set a1 true) },Queue:=v4.2 })))))))))))))
def zcm (a0:za) (a1:Int):=(zjx a0 a1).run
def zpp:SpecT:=zr 0 (LQ.v (Par.ofLP providerL) (Par.q intP)) 2 [] (u2 zjx) default (Par.q (Par.ofLP providerL)) 1 []
theorem zwo:zg Tryz.prog 83 (zpp).spec :=
 sK (A:=⟨[],[],[],[[2,3,4],[2,3,4,23],[4],[2,3,4],[2,3,4],[2,3,4],[2,4],[4]],[]⟩) zh79 fM Tryz.func83 (c:=(fb Tryz.f83)) (by kernel_rfl) (Lc:=0) trivial _ _ 7 _ _ _ _ _ _ [.pubB 4] (by rintro ⟨a0,a1⟩;kernel_rfl)
noncomputable def zy80:EnvT:=⟨Tryz.prog,zac [(14,zor),(40,zcb),(118,zea)]⟩
theorem zh80:(zy80).Ok:=zf ⟨zr3,zco,zg3,trivial⟩
def zm2 (a0:za) (a1:Int) (a2:ByteArray): Tr (za×Int) :=
 (.bind (zef a2) fun v1 =>
 (.bind (zbc a0) fun v2 =>
 (.ite (!v2)
  (.leaf (a0,2))
  (.guard ((((decide (a1 < 0))||(decide (a1≥2)))=false→((0:Int)≤a1∧(a1:Int) < 2)∧True))
  (.ite (((decide (a1 < 0))||(decide (a1≥2)))||(!(a0.Links.On.get a1)))
   (.leaf (a0,4))
   (.ite (v1.2 != 0)
    (.leaf (a0,v1.2))
    (.ite (v1.1.Kind==1)
     (.leaf (a0,3))
     (.guard ((zan a0.Queue).isSome=true)
     (.guard ((Sl.len (.asked ((zan a0.Queue).getD default))+Sl.len (.asked [(⟨a1,v1.1⟩:Asked)]))*88≤140737488355328)
     (.leaf ({ a0 with Queue:=((zan a0.Queue).getD default)++[(⟨a1,v1.1⟩:Asked)] },0)))))))))))
def zax (a0:za) (a1:Int) (a2:ByteArray):=(zm2 a0 a1 a2).run
def zsf:SpecT:=zr 0 (LQ.v (Par.ofLP providerL) (LQ.v intP (Par.q strP))) 3 [] (u3 zm2) default (LQ.v (Par.ofLP providerL) (Par.q intP)) 2 []
theorem zym:zg Tryz.prog 80 (zsf).spec :=
 sK (A:=⟨[],[],[],[[1,2,3,6],[1,3,6,8,9],[1,3,6,8,9,15],[6,7],[1,3,6,8,9,20],[6,7],[1,3,6,8,9,36],[6,7],[1,3,6,8,41],[6,7],[3,6],[6,7]],[]⟩) zh80 fM Tryz.func80 (c:=(fb Tryz.f80)) (by kernel_rfl) (Lc:=0) trivial _ _ 8 _ _ _ _ _ _ [.pubB 6] (by rintro ⟨a0,a1,a2⟩;kernel_rfl)
noncomputable def zy81:EnvT:=⟨Tryz.prog,zac [(40,zcb),(44,zqq),(45,zr8)]⟩
theorem zh81:(zy81).Ok:=zf ⟨zco,zt1,zwh,trivial⟩
def zhw (a0:za) (a1 a2:Int): Tr (za×Int) :=
 (.bind (zbc a0) fun v1 =>
 (.ite (!v1)
  (.leaf (a0,2))
  (.ite ((decide (a1 < 0))||(decide (a1≥6)))
   (.leaf (a0,4))
   (.ite ((decide (a2 < 1))||(decide (a2 > a0.Height)))
    (.leaf (a0,2))
    (.guard ((0:Int)≤a1∧(a1:Int) < 6)
    (.ite (a0.Stake.Validators.Dead.get a1)
     (.leaf (a0,15))
     (.bind (zfh a0.Stake a1 a2 50) fun v2 =>
     (.ite (v2.2.2 != 0)
      (.leaf (a0,v2.2.2))
      (.bind (ziv v2.1 a1) fun v3 =>
      (.ite (v3.2 != 0)
       (.leaf (a0,v3.2))
       (.leaf ({ a0 with Stake:=v3.1 },0))))))))))))
def zgs (a0:za) (a1 a2:Int):=(zhw a0 a1 a2).run
def zm3:SpecT:=zr 0 (LQ.v (Par.ofLP providerL) (LQ.v intP (Par.q intP))) 3 [] (u3 zhw) default (LQ.v (Par.ofLP providerL) (Par.q intP)) 2 []
theorem ztm:zg Tryz.prog 33 (zm3).spec :=
 sK (A:=⟨[],[],[],[[1,2,3,6],[1,2,3,6,11],[6,7],[1,2,3,6,16],[6,7],[1,2,3,6,24],[6,7],[1,2,3,6,34],[6,7],[1,3,6,8,10],[1,3,6,8,10,52],[6,7],[3,6,8,10],[3,6,8,10,62],[6,7],[3,6],[6,7]],[]⟩) zh81 fM Tryz.func33 (c:=(fb Tryz.f33)) (by kernel_rfl) (Lc:=0) trivial _ _ 5 _ _ _ _ _ _ [.pubB 6] (by rintro ⟨a0,a1,a2⟩;kernel_rfl)
noncomputable def zy82:EnvT:=⟨Tryz.prog,zac [(112,zx9),(113,zj9),(114,zxe),(73,zde)]⟩
theorem zh82:(zy82).Ok:=zf ⟨z4s,zmm,zz8,zfy,trivial⟩
def zm4 (a0 a1:Int) (a2:za): Tr (za) :=
 (.guard ((0:Int)≤a0∧(a0:Int) < 2)
 (.guard ((zdp (a2.Links.Told.get a0) a2.Set).isSome=true)
 (.ite ((!(a2.Links.On.get a0))||(((((((zdp (a2.Links.Told.get a0) a2.Set).getD default).length:Nat):Int)==0)&&(!(a2.Links.Fresh.get a0)))&&((((a2.Links.Done.get a0).length:Nat):Int)==0)))
  (.leaf a2)
  (.guard ((za7 (⟨1,a2.Height,0,0,((zdp (a2.Links.Told.get a0) a2.Set).getD default),a2.Links.Done.get a0⟩:Packet)).isSome=true)
  (.ite ((((za7 (⟨1,a2.Height,0,0,((zdp (a2.Links.Told.get a0) a2.Set).getD default),a2.Links.Done.get a0⟩:Packet)).getD default).2) != 0)
   (.leaf a2)
   (.bind (zql (⟨a2.Links.Said.get a0,a2.Links.Due.get a0,a2.Links.Got.get a0,a2.Links.Closed.get a0⟩:zid) (((za7 (⟨1,a2.Height,0,0,((zdp (a2.Links.Told.get a0) a2.Set).getD default),a2.Links.Done.get a0⟩:Packet)).getD default).1) (i64.wrap (a1+40))) fun v1 =>
   (.ite (v1.2 != 0)
    (.leaf a2)
    (.guard ((zah a2.Set).isSome=true)
    (.leaf ({ a2 with Links:={ a2.Links with Told:=(a2.Links.Told.set a0 ((zah a2.Set).getD default)),Fresh:=(a2.Links.Fresh.set a0 false),Done:=(a2.Links.Done.set a0 []),Said:=(a2.Links.Said.set a0 v1.1.Said),Due:=(a2.Links.Due.set a0 v1.1.Due),Got:=(a2.Links.Got.set a0 v1.1.Got),Closed:=(a2.Links.Closed.set a0 v1.1.Closed) } }))))))))))
def zhk (a0 a1:Int) (a2:za):=(zm4 a0 a1 a2).run
def zsg:SpecT:=zr 1 (LQ.kp 0 0 (LQ.v intP (LQ.v intP (LP.q providerL)))) 3 [.cells 58 97] (u3 zm4) default (LP.q providerL) 0 [.cells 58 97]
theorem zyn:zg Tryz.prog 72 (zsg).spec :=
 sK (A:=⟨[],[],[],[[0,2,6],[0,2,6,7],[0,2,6,7,49],[0,2,6,8,9],[0,2,6,8,65],[0,6,9,10],[0,6,10,78],[]],[]⟩) zh82 fM Tryz.func72 (c:=(fb Tryz.f72)) (by kernel_rfl) (Lc:=1) trivial _ _ 4 _ _ _ _ _ _ [.pubN 0] (by rintro ⟨a0,a1,a2⟩;kernel_rfl)
def zm5 (a0:Int): Tr (Bool) :=
 (.leaf (a0 != a0))
def zfd (a0:Int):=(zm5 a0).run
def zsh:SpecT:=zr 0 (Par.q intP) 1 [] zm5 default (Par.q boolP) 1 []
theorem zyo:zg Tryz.prog 140 (zsh).spec :=
 sK (A:=⟨[],[],[],[[0],[2]],[]⟩) zhN fM Tryz.func140 (c:=(fb Tryz.f140)) (by kernel_rfl) (Lc:=0) trivial _ _ 2 _ _ _ _ _ _ [] (by rintro a0;kernel_rfl)
noncomputable def zy84:EnvT:=⟨Tryz.prog,zac [(140,zsh)]⟩
theorem zh84:(zy84).Ok:=zf ⟨zyo,trivial⟩
def zoy (a0 a1:Int): Tr (Bool) :=
 (.bind (zfd a0) fun v1 =>
 (.guard ((v1=true→((zfd a1).isSome=true)∧True))
 (.leaf ((v1&&(!((zfd a1).getD default)))||(decide (a0 < a1))))))
def zm6 (a0 a1:Int):=(zoy a0 a1).run
def zt6:SpecT:=zr 0 (LQ.v intP (Par.q intP)) 2 [] (u2 zoy) default (Par.q boolP) 1 []
theorem z0k:zg Tryz.prog 126 (zt6).spec :=
 sK (A:=⟨[],[],[],[[0,1],[4]],[]⟩) zh84 fM Tryz.func126 (c:=(fb Tryz.f126)) (by kernel_rfl) (Lc:=0) trivial _ _ 2 _ _ _ _ _ _ [] (by rintro ⟨a0,a1⟩;kernel_rfl)
def zi1 (a0:Int): Tr (Bool) :=
 (.leaf (a0 != a0))
def zbe (a0:Int):=(zi1 a0).run
def zn2:SpecT:=zr 0 (Par.q intP) 1 [] zi1 default (Par.q boolP) 1 []
theorem zu5:zg Tryz.prog 127 (zn2).spec :=
 sK (A:=⟨[],[],[],[[0],[2]],[]⟩) zhN fM Tryz.func127 (c:=(fb Tryz.f127)) (by kernel_rfl) (Lc:=0) trivial _ _ 2 _ _ _ _ _ _ [] (by rintro a0;kernel_rfl)
def zv86:List (List Nat):=[[0,1],[0,1,6],[0,1,6,7,8],[0,1,6,7,8,15],[0,1,6,7,8,9],[0,1,6,7,8,9,27],[0,1,6,7,8],[0,1,6,7,8],[4,5]]
noncomputable def zy86:EnvT:=⟨Tryz.prog,zac [(126,zt6),(127,zn2)]⟩
theorem zh86:(zy86).Ok:=zf ⟨z0k,zu5,trivial⟩
def zbf (x0:(List Int)) (x1 x2 x3 x4:Int): Tr (((List Int)×Int×Int×Int×Int)⊕((List Int)×Int×Int×Int)) :=
 (.ite (decide (x3 < x4))
  (.guard ((0:Int)≤1)
  (.guard ((0:Int)≤(i64.wrap (Int.fdiv (u64.wrap (i64.wrap (x3+x4))) (2 ^ 1)))∧(i64.wrap (Int.fdiv (u64.wrap (i64.wrap (x3+x4))) (2 ^ 1))) < ((Sl.len (.ints x0):Nat):Int))
  (.bind (zm6 (x0.getD ((i64.wrap (Int.fdiv (u64.wrap (i64.wrap (x3+x4))) (2 ^ 1))).toNat) 0) x1) fun v1 =>
  (.ite (v1)
   (.leaf (.inl (x0,x1,x2,i64.wrap ((i64.wrap (Int.fdiv (u64.wrap (i64.wrap (x3+x4))) (2 ^ 1)))+1),x4)))
   (.leaf (.inl (x0,x1,x2,x3,i64.wrap (Int.fdiv (u64.wrap (i64.wrap (x3+x4))) (2 ^ 1)))))))))
  (.leaf (.inr (x0,x1,x2,x3))))
def zfe (x0:(List Int)) (x1 x2 x3 x4:Int):=zd3 (fun s:(List Int)×Int×Int×Int×Int=>(zbf s.1 s.2.1 s.2.2.1 s.2.2.2.1 s.2.2.2.2).run) (x0,x1,x2,x3,x4)
def zaw9:Ann:=⟨[],[],[],zv86,[]⟩
def zaxa:=EndD.mk (LQ.v zfw (LQ.v intP (LQ.v intP (LQ.v intP (Par.q intP))))) ⟨[0,1,6,7,8],[.pub 0,.nilsl 0 (.ints [])]⟩ []
def zanc:=EndD.mk (LQ.v zfw (LQ.v intP (LQ.v intP (Par.q intP)))) ⟨[0,1,6,7],[.pub 0,.nilsl 0 (.ints [])]⟩ []
def zaqs:St→Option LR:=L1 54 2 0 zaxa (.exit 0) zanc (u5 zbf)
def zs86a:=sub (fb Tryz.f104) [0,0,1,1,1]
theorem zaxb:zt (zy86).env 0 zs86a zaqs :=
 zhm (A:=zaw9) zh86 fM trivial (k:=zch zs86a) (by kernel_rfl) rfl (by rintro ⟨x0,x1,x2,x3,x4⟩;kernel_rfl)
def zd0 (a0:(List Int)) (a1:Int): Tr (Int×Bool) :=
 (.bind (zfe a0 a1 ((a0.length:Nat):Int) 0 ((a0.length:Nat):Int)) fun v2 =>
 (.guard (((decide (v2.2.2.2 < v2.2.2.1))=true→((0:Int)≤v2.2.2.2∧v2.2.2.2 < ((Sl.len (.ints v2.1):Nat):Int))∧True))
 (.guard ((((v2.1.getD v2.2.2.2.toNat 0)==v2.2.1)=false→((decide (v2.2.2.2 < v2.2.2.1))=true→((0:Int)≤v2.2.2.2∧v2.2.2.2 < ((Sl.len (.ints v2.1):Nat):Int))∧True)))
 (.guard ((((v2.1.getD v2.2.2.2.toNat 0)==v2.2.1)=false→((decide (v2.2.2.2 < v2.2.2.1))=true→((zbe (v2.1.getD v2.2.2.2.toNat 0)).isSome=true)∧True)))
 (.guard ((((zbe (v2.1.getD v2.2.2.2.toNat 0)).getD default)=true→(((v2.1.getD v2.2.2.2.toNat 0)==v2.2.1)=false→((decide (v2.2.2.2 < v2.2.2.1))=true→((zbe v2.2.1).isSome=true)∧True))))
 (.leaf (v2.2.2.2,(decide (v2.2.2.2 < v2.2.2.1))&&(((v2.1.getD v2.2.2.2.toNat 0)==v2.2.1)||(((zbe (v2.1.getD v2.2.2.2.toNat 0)).getD default)&&((zbe v2.2.1).getD default))))))))))
def zp (a0:(List Int)) (a1:Int):=(zd0 a0 a1).run
def zha:SpecT:=zr 0 (LQ.v zfw (Par.q intP)) 2 [] (u2 zd0) default (LQ.v intP (Par.q boolP)) 2 []
theorem znl:zg Tryz.prog 104 (zha).spec :=
 sK (A:=⟨[([0,0,1,1,1],zaqs)],[],[],zv86,[]⟩) zh86 fM Tryz.func104 (c:=(fb Tryz.f104)) (by kernel_rfl) (Lc:=0) ⟨zaxb,trivial⟩ _ _ 2 _ _ _ _ _ _ [] (by rintro ⟨a0,a1⟩;kernel_rfl)
noncomputable def zy87:EnvT:=⟨Tryz.prog,zac [(101,zmo),(102,zx7),(103,zx8),(104,zha),(106,zim),(105,F_slices_Insert_int),(44,zqq),(45,zr8)]⟩
theorem zh87:(zy87).Ok:=zf ⟨zq8,z4q,z4r,znl,zmj,ztk,zt1,zwh,trivial⟩
def zm7 (a0:Asked) (a1:za): Tr (Bool×za) :=
 (.guard ((0:Int)≤a0.P.V∧(a0.P.V:Int) < 6)
 (.guard ((0:Int)≤a0.C∧(a0.C:Int) < 2)
 (.ite (a0.P.Kind==2)
  (.guard ((ze7 a1.Stake a0.C a0.P.Id).isSome=true)
  (.leaf (true,{ a1 with Stake:=((ze7 a1.Stake a0.C a0.P.Id).getD default) })))
  (.ite (a0.P.Kind==3)
   (.ite (!(a1.Stake.Validators.Jailed.get a0.P.V))
    (.guard ((100:Int)≠0)
    (.guard ((zgd a1.Meter (if (i64.wrap (Int.tdiv (a1.Stake.Validators.Tokens.get a0.P.V) 100)) > 1 then (i64.wrap (Int.tdiv (a1.Stake.Validators.Tokens.get a0.P.V) 100)) else 1)).isSome=true)
    (.ite (!(((zgd a1.Meter (if (i64.wrap (Int.tdiv (a1.Stake.Validators.Tokens.get a0.P.V) 100)) > 1 then (i64.wrap (Int.tdiv (a1.Stake.Validators.Tokens.get a0.P.V) 100)) else 1)).getD default).2))
     (.leaf (false,a1))
     (.guard ((ziu a1.Stake a0.P.V).isSome=true)
     (.guard ((zp (a1.Links.Done.get a0.C) a0.P.V).isSome=true)
     (.ite (!(((zp (a1.Links.Done.get a0.C) a0.P.V).getD default).2))
      (.guard ((z5 (a1.Links.Done.get a0.C)).isSome=true)
      (.guard ((zbp ((z5 (a1.Links.Done.get a0.C)).getD default) (((zp (a1.Links.Done.get a0.C) a0.P.V).getD default).1) [a0.P.V]).isSome=true)
      (.leaf (true,{ a1 with Stake:=(((ziu a1.Stake a0.P.V).getD default).1),Links:={ a1.Links with Done:=(a1.Links.Done.set a0.C ((zbp ((z5 (a1.Links.Done.get a0.C)).getD default) (((zp (a1.Links.Done.get a0.C) a0.P.V).getD default).1) [a0.P.V]).getD default)) },Meter:=(((zgd a1.Meter (if (i64.wrap (Int.tdiv (a1.Stake.Validators.Tokens.get a0.P.V) 100)) > 1 then (i64.wrap (Int.tdiv (a1.Stake.Validators.Tokens.get a0.P.V) 100)) else 1)).getD default).1) }))))
      (.leaf (true,{ a1 with Stake:=(((ziu a1.Stake a0.P.V).getD default).1),Meter:=(((zgd a1.Meter (if (i64.wrap (Int.tdiv (a1.Stake.Validators.Tokens.get a0.P.V) 100)) > 1 then (i64.wrap (Int.tdiv (a1.Stake.Validators.Tokens.get a0.P.V) 100)) else 1)).getD default).1) }))))))))
    (.guard ((zp (a1.Links.Done.get a0.C) a0.P.V).isSome=true)
    (.ite (!(((zp (a1.Links.Done.get a0.C) a0.P.V).getD default).2))
     (.guard ((z5 (a1.Links.Done.get a0.C)).isSome=true)
     (.guard ((zbp ((z5 (a1.Links.Done.get a0.C)).getD default) (((zp (a1.Links.Done.get a0.C) a0.P.V).getD default).1) [a0.P.V]).isSome=true)
     (.leaf (true,{ a1 with Links:={ a1.Links with Done:=(a1.Links.Done.set a0.C ((zbp ((z5 (a1.Links.Done.get a0.C)).getD default) (((zp (a1.Links.Done.get a0.C) a0.P.V).getD default).1) [a0.P.V]).getD default)) } }))))
     (.leaf (true,a1)))))
   (.ite (a0.P.Kind==4)
    (.ite (!(a1.Stake.Validators.Dead.get a0.P.V))
     (.guard ((zfh a1.Stake a0.P.V (if (a1.Links.Base.get a0.C) > a0.P.Id then (a1.Links.Base.get a0.C) else a0.P.Id) 50).isSome=true)
     (.guard ((ziv (((zfh a1.Stake a0.P.V (if (a1.Links.Base.get a0.C) > a0.P.Id then (a1.Links.Base.get a0.C) else a0.P.Id) 50).getD default).1) a0.P.V).isSome=true)
     (.leaf (true,{ a1 with Stake:=(((ziv (((zfh a1.Stake a0.P.V (if (a1.Links.Base.get a0.C) > a0.P.Id then (a1.Links.Base.get a0.C) else a0.P.Id) 50).getD default).1) a0.P.V).getD default).1) }))))
     (.leaf (true,a1)))
    (.leaf (true,a1)))))))
def zlb (a0:Asked) (a1:za):=(zm7 a0 a1).run
def zsi:SpecT:=zr 1 (LQ.kp 0 0 (LQ.v (Par.ofLP zad3) (LP.q providerL))) 2 [.cells 58 97] (u2 zm7) default (LQ.v boolP (LP.q providerL)) 1 [.cells 58 97]
theorem zyp:zg Tryz.prog 69 (zsi).spec :=
 sK (A:=⟨[],[],[],[[0,3],[0,3,5],[0,3,5,6],[0,3,5,6,28],[0,3,5,6,28,29],[],[0,3,5,6,28,44],[0,3,5,6,48],[0,3,6,7,8],[0,3,6,7,62],[4],[0,3,6],[3,6],[3,6,9,10],[3,6,9,93],[],[0,3,5,6,108],[0,3,6,112],[0,3],[],[4]],[]⟩) zh87 fM Tryz.func69 (c:=(fb Tryz.f69)) (by kernel_rfl) (Lc:=1) trivial _ _ 9 _ _ _ _ _ _ [.pubN 0] (by rintro ⟨a0,a1⟩;kernel_rfl)
def zv88:List (List Nat):=[[1,2,4],[1,2,4,27],[4,5,6],[1,2,4],[1,2,4],[1,2,4,7],[1,2,4,7,8],[1,2,4,7,8,44,45,46],[1,2,4,7,8,44,45,46,47],[1,2,4,7,8,10,44,45,46],[1,2,4,7,8,10,44,45,46,58],[1,2,4,7,8,10,44,45,46],[1,2,4,7,8,44,45,46],[1,2,4,7,8,44,45,46],[1,2,4],[1,2,4,11,12,13],[1,2,4,11,12,13,78],[4,5,6],[1,2,4,12],[1,2,4,12],[1,2,4,12,87],[1,2,4,12,87,88],[1,2,4,12,14,87],[1,2,4,12,87],[1,2,4,12,87],[4,5,6]]
noncomputable def zy88:EnvT:=⟨Tryz.prog,zac [(40,zcb),(68,z0f),(67,zx6),(69,zsi),(70,z0d),(71,z0g),(72,zsg)]⟩
theorem zh88:(zy88).Ok:=zf ⟨zco,z6u,z4p,zyp,z6t,z6v,zyn,trivial⟩
def zel (x0:Int) (x1:(List Asked)) (x2 x3:Int) (x4 x5:za) (x6:(A2 Bool)) (x7:(List Asked)): Tr ((Int×(List Asked)×Int×Int×za×za×(A2 Bool)×(List Asked))⊕(Int×za×za×(List Asked))) :=
 (.ite (decide (x3 < x2))
  (.guard ((0:Int)≤x3∧x3 < ((Sl.len (.asked x1):Nat):Int))
  (.guard ((0:Int)≤((x1.getD x3.toNat default).C)∧(((x1.getD x3.toNat default).C):Int) < 2)
  (.ite (x6.get ((x1.getD x3.toNat default).C))
   (.ite ((true:Bool))
    (.ite ((true:Bool))
     (.ite ((true:Bool))
      (.guard ((0:Int)≤((x1.getD x3.toNat default).C)∧(((x1.getD x3.toNat default).C):Int) < 2)
      (.guard ((Sl.len (.asked x7)+Sl.len (.asked [(x1.getD x3.toNat default)]))*88≤140737488355328)
      (.leaf (.inl (x0,x1,x2,i64.wrap (x3+1),x4,x5,(x6.set ((x1.getD x3.toNat default).C) true),x7++[(x1.getD x3.toNat default)])))))
      (.leaf (.inl (x0,x1,x2,i64.wrap (x3+1),x4,x5,x6,x7))))
     .fail)
    .fail)
   (.bind (zlb (x1.getD x3.toNat default) x4) fun v2 =>
   (.ite ((false:Bool)||(!v2.1))
    (.guard ((0:Int)≤((x1.getD x3.toNat default).C)∧(((x1.getD x3.toNat default).C):Int) < 2)
    (.guard ((Sl.len (.asked x7)+Sl.len (.asked [(x1.getD x3.toNat default)]))*88≤140737488355328)
    (.leaf (.inl (x0,x1,x2,i64.wrap (x3+1),v2.2,x5,(x6.set ((x1.getD x3.toNat default).C) true),x7++[(x1.getD x3.toNat default)])))))
    (.leaf (.inl (x0,x1,x2,i64.wrap (x3+1),v2.2,x5,x6,x7))))))))
  (.leaf (.inr (x0,x4,x5,x7))))
def zft (x0:Int) (x1:(List Asked)) (x2 x3:Int) (x4 x5:za) (x6:(A2 Bool)) (x7:(List Asked)):=zd3 (fun s:Int×(List Asked)×Int×Int×za×za×(A2 Bool)×(List Asked)=>(zel s.1 s.2.1 s.2.2.1 s.2.2.2.1 s.2.2.2.2.1 s.2.2.2.2.2.1 s.2.2.2.2.2.2.1 s.2.2.2.2.2.2.2).run) (x0,x1,x2,x3,x4,x5,x6,x7)
def zaxf:Ann:=⟨[],[],[],zv88,[(23,[9700002])]⟩
def zaxg:=EndD.mk (LQ.v intP (LQ.kp 0 0 (LQ.kp 1 0 (LQ.k (LQ.c (.own 3)) (LQ.kp 2 0 (LQ.v zd7 (LQ.v intP (LQ.v intP (LQ.seq (LP.q providerL) (LQ.seq (LP.q providerL) (LQ.seq (LP.q (a2L (LP.one boolP))) (Par.q zd7)))))))))))) ⟨[1,2,4,7,8,44,45,46],[.nilown 7 90 (.asked []),.pub 44,.nilsl 44 (.asked [])]⟩ [.cells 58 97,.cells 58 97,.cells 70 2,.rows 90]
def zand:=EndD.mk (LQ.v intP (LQ.kp 0 0 (LQ.kp 1 0 (LQ.k (LQ.c (.own 2)) (LQ.seq (LP.q providerL) (LQ.seq (LP.q providerL) (Par.q zd7))))))) ⟨[1,2,4,7],[.nilown 7 90 (.asked [])]⟩ [.cells 58 97,.cells 58 97,.rows 90]
def zaqt:St→Option LR:=L1 96 9 0 zaxg (.exit 0) zand (u8 zel)
def zs88a:=sub (fb Tryz.f46) [0,1,0,1,1,1,1,1,1]
theorem zaxh:zt (zy88).env 0 zs88a zaqt :=
 zhm (A:=zaxf) zh88 fM trivial (k:=zch zs88a) (by kernel_rfl) rfl (by rintro ⟨x0,x1,x2,x3,x4,x5,x6,x7⟩;kernel_rfl)
def zem (x0:Int) (x1:(List Int)) (x2:Int) (x3 x4:za): Tr ((Int×(List Int)×Int×za×za)⊕((List Int)×za×za)) :=
 (.ite (decide (x2 < 2))
  (.bind (zhk x2 x0 x3) fun v6 =>
  (.leaf (.inl (x0,x1,i64.wrap (x2+1),v6,x4))))
  (.leaf (.inr (x1,x3,x4))))
def zi2 (x0:Int) (x1:(List Int)) (x2:Int) (x3 x4:za):=zd3 (fun s:Int×(List Int)×Int×za×za=>(zem s.1 s.2.1 s.2.2.1 s.2.2.2.1 s.2.2.2.2).run) (x0,x1,x2,x3,x4)
def zaxi:Ann:=⟨[],[],[],zv88,[(23,[9700002])]⟩
def zaxj:=EndD.mk (LQ.v intP (LQ.kp 0 0 (LQ.kp 1 0 (LQ.v zfw (LQ.v intP (LQ.seq (LP.q providerL) (LP.q providerL))))))) ⟨[1,2,4,12,87],[.pubC 2 96,.pub 12,.nilsl 12 (.ints [])]⟩ [.cells 58 97,.cells 58 97]
def zane:=EndD.mk (LQ.kp 0 0 (LQ.kp 1 0 (LQ.v zfw (LQ.seq (LP.q providerL) (LP.q providerL))))) ⟨[2,4,12],[.pubC 2 96,.pub 12,.nilsl 12 (.ints [])]⟩ [.cells 58 97,.cells 58 97]
def zaqu:St→Option LR:=L1 96 9 0 zaxj (.exit 2) zane (u5 zem)
def zs88b:=sub (fb Tryz.f46) [0,1,0,1,1,1,1,1,1,1,1,1,1,1,1]
theorem zaxk:zt (zy88).env 0 zs88b zaqu :=
 zhm (A:=zaxi) zh88 fM trivial (k:=zch zs88b) (by kernel_rfl) rfl (by rintro ⟨x0,x1,x2,x3,x4⟩;kernel_rfl)
def zoz (a0:za) (a1:Int): Tr (za×(List Int)×Int) :=
 (.bind (zbc a0) fun v1 =>
 (.ite (((!v1)||(decide (a1 < a0.Time)))||(decide (a1 > 1099511627776)))
  (.leaf (a0,[],2))
  (.guard ((zko a0.Set).isSome=true)
  (.guard ((zl1 a0.Meter ((zko a0.Set).getD default) a1).isSome=true)
  (.bind (zft a1 a0.Queue ((a0.Queue.length:Nat):Int) 0 ({ a0 with Height:=i64.wrap (a0.Height+1),Time:=a1,Meter:=((zl1 a0.Meter ((zko a0.Set).getD default) a1).getD default) }) (default:za) (⟨false,false⟩:(A2 Bool)) []) fun v3 =>
  (.bind (znz v3.2.1.Stake v3.1) fun v4 =>
  (.ite (v4.2.2 != 0)
   (.leaf ({ v3.2.1 with Queue:=v3.2.2.2 },[],v4.2.2))
   (.bind (zsc v4.1) fun v5 =>
   (.bind (zi2 v3.1 v4.2.1 0 ({ v3.2.1 with Stake:=v4.1,Set:=v5,Queue:=v3.2.2.2 }) v3.2.2.1) fun v7 =>
   (.leaf (v7.2.1,v7.1,0)))))))))))
def zce (a0:za) (a1:Int):=(zoz a0 a1).run
def zt7:SpecT:=zr 0 (LQ.v (Par.ofLP providerL) (Par.q intP)) 2 [] (u2 zoz) default (LQ.v (Par.ofLP providerL) (LQ.v zfw (Par.q intP))) 3 []
theorem z0l:zg Tryz.prog 46 (zt7).spec :=
 sK (A:=⟨[([0,1,0,1,1,1,1,1,1],zaqt),([0,1,0,1,1,1,1,1,1,1,1,1,1,1,1],zaqu)],[],[],zv88,[(23,[9700002])]⟩) zh88 fM Tryz.func46 (c:=(fb Tryz.f46)) (by kernel_rfl) (Lc:=0) ⟨zaxh,zaxk,trivial⟩ _ _ 9 _ _ _ _ _ _ [.pubB 4,.pub 5] (by rintro ⟨a0,a1⟩;kernel_rfl)
end
