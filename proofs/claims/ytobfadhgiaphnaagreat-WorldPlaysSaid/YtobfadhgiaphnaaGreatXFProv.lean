/-
  The functions, each by its tree.
-/
import Derived.Test.YtobfadhgiaphnaaGreatXAbC
import Derived.Test.YtobfadhgiaphnaaGreatXAbClear
import Derived.Test.YtobfadhgiaphnaaGreatXAbInsert
import Derived.Test.YtobfadhgiaphnaaGreatXFBank
import Derived.Test.YtobfadhgiaphnaaGreatXFCodec
import Derived.Test.YtobfadhgiaphnaaGreatXFLine
import Derived.Test.YtobfadhgiaphnaaGreatXFRatio
import Derived.Test.YtobfadhgiaphnaaGreatXFStakeA
import Derived.Test.YtobfadhgiaphnaaGreatXFStakeB
import Derived.Test.YtobfadhgiaphnaaGreatXFacts
namespace Go.Proofs.YtobfadhgiaphnaaGreat.Ab
open Go Go.RowKit
open Go.IntKind (i64 u64)
set_option maxRecDepth 100000
set_option linter.unusedVariables false
set_option linter.unusedSimpArgs false
noncomputable section
noncomputable def zy68:EnvT:=⟨Tryz.prog,zw [(92,zac6),(93,z5q)]⟩
theorem zh68:(zy68).Ok:=zd ⟨zako,zaac,trivial⟩
def zxe  : Tr (za) :=
 (.bind (z15) fun v1 =>
 (.bind (zvt 0 0) fun v2 =>
 (.leaf (⟨0,0,v1,[],(default:Links),v2,[]⟩:za))))
def zuh  := (zxe ).run
def z4l:SpecT:=zn 0 LQ.nil 0 [] (fun s=>zxe ) default (Par.q (Par.ofLP providerL)) 1 []
theorem zadc:ze Tryz.prog 48 (z4l).spec :=
 sK (A:=⟨[],[],[],[[0],[0]],[]⟩) zh68 fM Tryz.func48 (c:=(fb Tryz.f48)) (by kernel_rfl) (Lc:=0) trivial _ _ 3 _ _ _ _ _ _ [.pubB 0] (by rintro _;kernel_rfl)
def zv69:List (List Nat):=[[0],[0,5,6,7],[0,5,6,7,8],[0,3,4,5,6,7],[0,5,6,7,44],[2],[0,5,6,7],[2]]
def zk8 (x0 x1:(List Power)) (x2 x3:Int): Tr (((List Power)×(List Power)×Int×Int)⊕((Bool)⊕(Unit))) :=
 (.ite (decide (x3 < x2))
  (.guard ((0:Int)≤x3∧x3 < ((Sl.len (.powers x1):Nat):Int))
  (.guard (((decide (x3 > 0))=true→(((decide (((x1.getD x3.toNat default).V) < 0))||(decide (((x1.getD x3.toNat default).V)≥6)))=false→((0:Int)≤(i64.wrap (x3 - 1))∧(i64.wrap (x3 - 1)) < ((Sl.len (.powers x0):Nat):Int))∧True)))
  (.ite (((((decide (((x1.getD x3.toNat default).V) < 0))||(decide (((x1.getD x3.toNat default).V)≥6)))||((decide (x3 > 0))&&(decide (((x0.getD ((i64.wrap (x3 - 1)).toNat) default).V)≥((x1.getD x3.toNat default).V)))))||(decide (((x1.getD x3.toNat default).N) < 1)))||(decide (((x1.getD x3.toNat default).N) > 1125899906842624)))
   (.leaf (.inr (.inl false)))
   (.leaf (.inl (x0,x1,x2,i64.wrap (x3+1)))))))
  (.leaf (.inr (.inr ()))))
def zv5 (x0 x1:(List Power)) (x2 x3:Int):=zbl (fun s:(List Power)×(List Power)×Int×Int=>(zk8 s.1 s.2.1 s.2.2.1 s.2.2.2).run) (x0,x1,x2,x3)
def zbml:Ann:=⟨[],[],[],zv69,[]⟩
def zbmm:=EndD.mk (LQ.v zf (LQ.v zf (LQ.v intP (Par.q intP)))) ⟨[0,5,6,7],[.pub 0,.nilsl 0 (.powers []),.pub 5,.nilsl 5 (.powers [])]⟩ []
def za53:=EndD.mk (Par.q boolP) ⟨[2],[]⟩ []
def za54:EndD (Unit):=⟨LQ.nil,⟨[],[]⟩,[]⟩
def zbbl:St→Option LR:=L2 46 3 0 zbmm .ret za53 (.exit 0) za54 (u4 zk8)
def zs69a:=sub (fb Tryz.f110) [0,1,0,1]
theorem zbmn:zk (zyN).env 0 zs69a zbbl :=
 zgs (A:=zbml) zhN fM trivial (k:=z8 zs69a) (by kernel_rfl) rfl rfl (by rintro ⟨x0,x1,x2,x3⟩;kernel_rfl)
def zxf (a0:(List Power)): Tr (Bool) :=
 (.two (zv5 a0 a0 ((a0.length:Nat):Int) 0) (fun v1 =>
  (.leaf v1)) (fun v2 =>
  (.leaf true)))
def zfk (a0:(List Power)):=(zxf a0).run
def z4m:SpecT:=zn 0 (Par.q zf) 1 [] zxf default (Par.q boolP) 1 []
theorem zadd:ze Tryz.prog 110 (z4m).spec :=
 sK (A:=⟨[([0,1,0,1],zbbl)],[],[],zv69,[]⟩) zhN fM Tryz.func110 (c:=(fb Tryz.f110)) (by kernel_rfl) (Lc:=0) ⟨zbmn,trivial⟩ _ _ 3 _ _ _ _ _ _ [] (by rintro a0;kernel_rfl)
noncomputable def zy70:EnvT:=⟨Tryz.prog,zw [(114,zqz)]⟩
theorem zh70:(zy70).Ok:=zd ⟨ztb,trivial⟩
def zps (a0:Asked) (a1:za): Tr (Bool×za) :=
 (.guard ((((decide (a0.C < 0))||(decide (a0.C≥2)))=false→((0:Int)≤a0.C∧(a0.C:Int) < 2)∧True))
 (.guard (((((decide (a0.C < 0))||(decide (a0.C≥2)))||(!(a1.Links.On.get a0.C)))=false→((zhy a0.P).isSome=true)∧True))
 (.leaf (((((decide (a0.C < 0))||(decide (a0.C≥2)))||(!(a1.Links.On.get a0.C)))||(((zhy a0.P).getD default) != 0))||(a0.P.Kind==1),a1))))
def zoe (a0:Asked) (a1:za):=(zps a0 a1).run
def zyd:SpecT:=zn 1 (LQ.v (Par.ofLP z4c) (LQ.kp 0 0 (LP.q providerL))) 2 [.cells 63 97] (u2 zps) default (LQ.v boolP (LP.q providerL)) 1 [.cells 63 97]
theorem z71:ze Tryz.prog 113 (zyd).spec :=
 sK (A:=⟨[],[],[],[[1,2],[3]],[]⟩) zh70 fM Tryz.func113 (c:=(fb Tryz.f113)) (by kernel_rfl) (Lc:=1) trivial _ _ 4 _ _ _ _ _ _ [.pubN 0] (by rintro ⟨a0,a1⟩;kernel_rfl)
def zv71:List (List Nat):=[[0,1],[0,1,7,8],[0,1,7,8,9],[0,1,5,7,8],[0,1,5,7,8,16],[4],[0,1,7,8],[4]]
noncomputable def zy71:EnvT:=⟨Tryz.prog,zw [(113,zyd)]⟩
theorem zh71:(zy71).Ok:=zd ⟨z71,trivial⟩
def zas (x0:(List Asked)) (x1 x2:Int) (x3:za): Tr (((List Asked)×Int×Int×za)⊕((Int×za)⊕(za))) :=
 (.ite (decide (x2 < x1))
  (.guard ((0:Int)≤x2∧x2 < ((Sl.len (.asked x0):Nat):Int))
  (.bind (zoe (x0.getD x2.toNat default) x3) fun v1 =>
  (.ite (v1.1)
   (.leaf (.inr (.inl (x2,v1.2))))
   (.leaf (.inl (x0,x1,i64.wrap (x2+1),v1.2))))))
  (.leaf (.inr (.inr x3))))
def zfq (x0:(List Asked)) (x1 x2:Int) (x3:za):=zbl (fun s:(List Asked)×Int×Int×za=>(zas s.1 s.2.1 s.2.2.1 s.2.2.2).run) (x0,x1,x2,x3)
def zbmo:Ann:=⟨[],[],[],zv71,[]⟩
def zbmp:=EndD.mk (LQ.v zac (LQ.k (LQ.c (.fn 113 [.ptr 0 0])) (LQ.v intP (LQ.v intP (LP.q providerL))))) ⟨[0,1,7,8],[.pub 0,.nilsl 0 (.asked [])]⟩ [.cells 63 97]
def za55:=EndD.mk (LQ.v intP (LP.q providerL)) ⟨[4],[]⟩ [.cells 63 97]
def za56:=EndD.mk (LP.q providerL) ⟨[],[]⟩ [.cells 63 97]
def zbbm:St→Option LR:=L2 19 3 1 zbmp .ret za55 (.exit 0) za56 (u4 zas)
def zs71a:=sub (fb Tryz.f151) [0,1,0,1]
theorem zbmq:zk (zy71).env 1 zs71a zbbm :=
 zgs (A:=zbmo) zh71 fM trivial (k:=z8 zs71a) (by kernel_rfl) rfl rfl (by rintro ⟨x0,x1,x2,x3⟩;kernel_rfl)
def zb2 (a0:(List Asked)) (a1:za): Tr (Int×za) :=
 (.two (zfq a0 ((a0.length:Nat):Int) 0 a1) (fun v2 =>
  (.leaf (v2.1,v2.2))) (fun v3 =>
  (.leaf (-1,v3))))
def zdt (a0:(List Asked)) (a1:za):=(zb2 a0 a1).run
def zho:SpecT:=zn 1 (LQ.v zac (LQ.k (LQ.c (.fn 113 [.ptr 0 0])) (LP.q providerL))) 2 [.cells 63 97] (u2 zb2) default (LQ.v intP (LP.q providerL)) 1 [.cells 63 97]
theorem zpt:ze Tryz.prog 151 (zho).spec :=
 sK (A:=⟨[([0,1,0,1],zbbm)],[],[],zv71,[]⟩) zh71 fM Tryz.func151 (c:=(fb Tryz.f151)) (by kernel_rfl) (Lc:=1) ⟨zbmq,trivial⟩ _ _ 3 _ _ _ _ _ _ [.pubN 0] (by rintro ⟨a0,a1⟩;kernel_rfl)
noncomputable def zy72:EnvT:=⟨Tryz.prog,zw [(151,zho)]⟩
theorem zh72:(zy72).Ok:=zd ⟨zpt,trivial⟩
def zdu (a0:(List Asked)) (a1:za): Tr (Bool×za) :=
 (.bind (zdt a0 a1) fun v1 =>
 (.leaf (decide (v1.1≥0),v1.2)))
def zdo (a0:(List Asked)) (a1:za):=(zdu a0 a1).run
def zhc:SpecT:=zn 1 (LQ.v zac (LQ.k (LQ.c (.fn 113 [.ptr 0 0])) (LP.q providerL))) 2 [.cells 63 97] (u2 zdu) default (LQ.v boolP (LP.q providerL)) 1 [.cells 63 97]
theorem zo1:ze Tryz.prog 112 (zhc).spec :=
 sK (A:=⟨[],[],[],[[0,1],[4]],[]⟩) zh72 fM Tryz.func112 (c:=(fb Tryz.f112)) (by kernel_rfl) (Lc:=1) trivial _ _ 3 _ _ _ _ _ _ [.pubN 0] (by rintro ⟨a0,a1⟩;kernel_rfl)
def zv73:List (List Nat):=[[1],[1,36],[2],[1,38,39],[1,38,39,40],[1,4,38,39],[1,4,38,39,71],[2],[1,4,38,39,73,74,75],[1,4,38,39,73,74,75,76],[1,4,5,6,38,39,73,74,75],[1,4,38,39,73,74,75,99],[2],[1,4,38,39,73,74,75],[1,38,39],[2]]
noncomputable def zy73:EnvT:=⟨Tryz.prog,zw [(109,zv0),(110,z4m),(111,zpi),(112,zhc)]⟩
theorem zh73:(zy73).Ok:=zd ⟨zzu,zadd,zqx,zo1,trivial⟩
def zjx (x0:Links) (x1:Int) (x2:(List Int)) (x3 x4:Int) (x5:za) (x6:Link): Tr ((Links×Int×(List Int)×Int×Int×za×Link)⊕((Bool)⊕(Links×Int×za))) :=
 (.ite (decide (x4 < x3))
  (.guard ((0:Int)≤x4∧x4 < ((Sl.len (.ints x2):Nat):Int))
  (.guard (((decide (x4 > 0))=true→(((decide ((x2.getD x4.toNat 0) < 0))||(decide ((x2.getD x4.toNat 0)≥6)))=false→((0:Int)≤(i64.wrap (x4 - 1))∧(i64.wrap (x4 - 1)) < ((Sl.len (.ints x6.Done):Nat):Int))∧True)))
  (.ite (((decide ((x2.getD x4.toNat 0) < 0))||(decide ((x2.getD x4.toNat 0)≥6)))||((decide (x4 > 0))&&(decide ((x6.Done.getD ((i64.wrap (x4 - 1)).toNat) 0)≥(x2.getD x4.toNat 0)))))
   (.leaf (.inr (.inl false)))
   (.leaf (.inl (x0,x1,x2,x3,i64.wrap (x4+1),x5,x6))))))
  (.leaf (.inr (.inr (x0,x1,x5)))))
def zui (x0:Links) (x1:Int) (x2:(List Int)) (x3 x4:Int) (x5:za) (x6:Link):=zbl (fun s:Links×Int×(List Int)×Int×Int×za×Link=>(zjx s.1 s.2.1 s.2.2.1 s.2.2.2.1 s.2.2.2.2.1 s.2.2.2.2.2.1 s.2.2.2.2.2.2).run) (x0,x1,x2,x3,x4,x5,x6)
def zbmu:Ann:=⟨[],[],[],zv73,[]⟩
def zbmv:=EndD.mk (LQ.kp 0 0 (LQ.kp 1 0 (LQ.v (Par.ofLP linksL) (LQ.v intP (LQ.v za7 (LQ.v intP (LQ.v intP (LQ.seq (LP.q providerL) (LP.q zawq))))))))) ⟨[1,4,38,39,73,74,75],[.pub 73,.nilsl 73 (.ints [])]⟩ [.cells 63 97,.cells 57 14]
def za57:=EndD.mk (Par.q boolP) ⟨[2],[]⟩ []
def za58:=EndD.mk (LQ.kp 0 0 (LQ.v (Par.ofLP linksL) (LQ.v intP (LP.q providerL)))) ⟨[1,38,39],[]⟩ [.cells 63 97]
def zbbn:St→Option LR:=L2 107 4 0 zbmv .ret za57 (.exit 2) za58 (u7 zjx)
def zs73a:=sub (fb Tryz.f78) [0,1,1,1,0,0,1,1,0,0,1,0,1,1]
theorem zbmw:zk (zy73).env 0 zs73a zbbn :=
 zgs (A:=zbmu) zh73 fM trivial (k:=z8 zs73a) (by kernel_rfl) rfl rfl (by rintro ⟨x0,x1,x2,x3,x4,x5,x6⟩;kernel_rfl)
def zek (x0:Links) (x1:Int) (x2:za): Tr ((Links×Int×za)⊕((Bool)⊕(za))) :=
 (.ite (decide (x1 < 2))
  (.guard ((0:Int)≤x1∧(x1:Int) < 2)
  (.guard ((((((x0.On.get x1)&&(x0.Gone.get x1))||(decide ((x0.Base.get x1) < 0)))||(decide ((x0.Base.get x1) > x2.Height)))=false→((zfk (x0.Told.get x1)).isSome=true)∧True))
  (.guard (((((((x0.On.get x1)&&(x0.Gone.get x1))||(decide ((x0.Base.get x1) < 0)))||(decide ((x0.Base.get x1) > x2.Height)))||(!((zfk (x0.Told.get x1)).getD default)))=false→((zf3 (⟨x0.Said.get x1,x0.Due.get x1,x0.Got.get x1,x0.Closed.get x1⟩:zbs)).isSome=true)∧True))
  (.ite ((((((x0.On.get x1)&&(x0.Gone.get x1))||(decide ((x0.Base.get x1) < 0)))||(decide ((x0.Base.get x1) > x2.Height)))||(!((zfk (x0.Told.get x1)).getD default)))||(!((zf3 (⟨x0.Said.get x1,x0.Due.get x1,x0.Got.get x1,x0.Closed.get x1⟩:zbs)).getD default)))
   (.leaf (.inr (.inl false)))
   (.two (zui x0 x1 (x0.Done.get x1) (((x0.Done.get x1).length:Nat):Int) 0 x2 (⟨x0.On.get x1,x0.Gone.get x1,x0.Base.get x1,x0.Told.get x1,x0.Fresh.get x1,x0.Done.get x1,(⟨x0.Said.get x1,x0.Due.get x1,x0.Got.get x1,x0.Closed.get x1⟩:zbs),(⟨x0.SHeight.get x1,x0.STime.get x1,x0.SSaid.get x1,x0.SGot.get x1⟩:Head)⟩:Link)) (fun v2 =>
    (.leaf (.inr (.inl v2)))) (fun v3 =>
    (.leaf (.inl (v3.1,i64.wrap (v3.2.1+1),v3.2.2)))))))))
  (.leaf (.inr (.inr x2))))
def zmy (x0:Links) (x1:Int) (x2:za):=zbl (fun s:Links×Int×za=>(zek s.1 s.2.1 s.2.2).run) (x0,x1,x2)
def zbmx:Ann:=⟨[([0,1,1,1,0,0,1,1,0,0,1,0,1,1],zbbn)],[],[],zv73,[]⟩
def zbmy:=EndD.mk (LQ.kp 0 0 (LQ.v (Par.ofLP linksL) (LQ.v intP (LP.q providerL)))) ⟨[1,38,39],[]⟩ [.cells 63 97]
def za59:=EndD.mk (Par.q boolP) ⟨[2],[]⟩ []
def za6a:=EndD.mk (LQ.kp 0 0 (LP.q providerL)) ⟨[1],[]⟩ [.cells 63 97]
def zbbo:St→Option LR:=L2 107 4 0 zbmy .ret za59 (.exit 0) za6a (u3 zek)
def zs73b:=sub (fb Tryz.f78) [0,1,0,1,1]
theorem zbmz:zk (zy73).env 0 zs73b zbbo :=
 zgs (A:=zbmx) zh73 fM ⟨zbmw,trivial⟩ (k:=z8 zs73b) (by kernel_rfl) rfl rfl (by rintro ⟨x0,x1,x2⟩;kernel_rfl)
def zuj (a0:za): Tr (Bool) :=
 (.bind (zn6 a0.Stake) fun v1 =>
 (.guard (((((((!v1)||(decide (a0.Height < 0)))||(decide (a0.Height≥1099511627776)))||(decide (a0.Time < 0)))||(decide (a0.Time > 1099511627776)))=false→((zfk a0.Set).isSome=true)∧True))
 (.ite ((((((!v1)||(decide (a0.Height < 0)))||(decide (a0.Height≥1099511627776)))||(decide (a0.Time < 0)))||(decide (a0.Time > 1099511627776)))||(!((zfk a0.Set).getD default)))
  (.leaf false)
  (.two (zmy a0.Links 0 a0) (fun v4 =>
   (.leaf v4)) (fun v5 =>
   (.bind (zdo v5.Queue v5) fun v6 =>
   (.leaf (!v6.1))))))))
def zcg (a0:za):=(zuj a0).run
def zd5:SpecT:=zn 0 (Par.q (Par.ofLP providerL)) 1 [] zuj default (Par.q boolP) 1 []
theorem zep:ze Tryz.prog 78 (zd5).spec :=
 sK (A:=⟨[([0,1,0,1,1],zbbo)],[],[],zv73,[]⟩) zh73 fM Tryz.func78 (c:=(fb Tryz.f78)) (by kernel_rfl) (Lc:=0) ⟨zbmz,trivial⟩ _ _ 4 _ _ _ _ _ _ [] (by rintro a0;kernel_rfl)
noncomputable def zy74:EnvT:=⟨Tryz.prog,zw [(78,zd5),(79,z0r)]⟩
theorem zh74:(zy74).Ok:=zd ⟨zep,z9e,trivial⟩
def zmz (a0:za) (a1 a2 a3:Int): Tr (za×Int) :=
 (.bind (zcg a0) fun v1 =>
 (.ite (!v1)
  (.leaf (a0,2))
  (.bind (zpl a0.Stake a1 a2 a3) fun v2 =>
  (.ite (v2.2 != 0)
   (.leaf (a0,v2.2))
   (.leaf ({ a0 with Stake:=v2.1 },0))))))
def zlj (a0:za) (a1 a2 a3:Int):=(zmz a0 a1 a2 a3).run
def zuk:SpecT:=zn 0 (LQ.v (Par.ofLP providerL) (LQ.v intP (LQ.v intP (Par.q intP)))) 4 [] (u4 zmz) default (LQ.v (Par.ofLP providerL) (Par.q intP)) 2 []
theorem z3y:ze Tryz.prog 33 (zuk).spec :=
 sK (A:=⟨[],[],[],[[1,2,3,4,8],[1,2,3,4,8,14],[8,9],[4,8,10,11],[4,8,10,11,26],[8,9],[4,8],[8,9]],[]⟩) zh74 fM Tryz.func33 (c:=(fb Tryz.f33)) (by kernel_rfl) (Lc:=0) trivial _ _ 5 _ _ _ _ _ _ [.pubB 8] (by rintro ⟨a0,a1,a2,a3⟩;kernel_rfl)
def zv75:List (List Nat):=[[1,2,3,4,5,10],[1,2,3,4,5,10,27],[10,11],[1,2,3,5,10,12],[1,2,3,5,10,12,35],[1,2,3,5,10,12,35,36],[1,2,3,5,10,12,13,35],[1,2,3,5,10,12,13,35,42],[1,2,3,5,10,12,35],[1,2,3,5,10,12,35],[5,10,14,15],[5,10,14,15,61],[10,11],[5,10],[5,10,66],[5,10,66,67],[5,10,16,66],[5,10,66],[5,10,66],[10,11]]
noncomputable def zy75:EnvT:=⟨Tryz.prog,zw [(78,zd5),(80,zv1)]⟩
theorem zh75:(zy75).Ok:=zd ⟨zep,z5v,trivial⟩
def zbm (x0 x1 x2 x3:Int) (x4 x5:za) (x6:Wait): Tr ((Int×Int×Int×Int×za×za×Wait)⊕(Int×Int×Int×za×za×Wait)) :=
 (.ite (decide (x3 < 2))
  (.guard ((0:Int)≤x3∧(x3:Int) < 2)
  (.ite (x4.Links.On.get x3)
   (.guard ((0:Int)≤x3∧(x3:Int) < 2)
   (.leaf (.inl (x0,x1,x2,i64.wrap (x3+1),x4,x5,{ (x6:Wait) with h0:=if x3=0 then i64.wrap (x4.Height+1) else x6.h0,h1:=if x3=1 then i64.wrap (x4.Height+1) else x6.h1 }))))
   (.leaf (.inl (x0,x1,x2,i64.wrap (x3+1),x4,x5,x6)))))
  (.leaf (.inr (x0,x1,x2,x4,x5,x6))))
def zgm (x0 x1 x2 x3:Int) (x4 x5:za) (x6:Wait):=zbl (fun s:Int×Int×Int×Int×za×za×Wait=>(zbm s.1 s.2.1 s.2.2.1 s.2.2.2.1 s.2.2.2.2.1 s.2.2.2.2.2.1 s.2.2.2.2.2.2).run) (x0,x1,x2,x3,x4,x5,x6)
def zbm3:Ann:=⟨[],[],[],zv75,[]⟩
def zbm4:=EndD.mk (LQ.v intP (LQ.v intP (LQ.v intP (LQ.kp 0 0 (LQ.kp 1 0 (LQ.kp 2 0 (LQ.v intP (LQ.seq (LP.q providerL) (LQ.seq (LP.q providerL) (LP.q zaqm)))))))))) ⟨[1,2,3,5,10,12,35],[]⟩ [.cells 63 97,.cells 63 97,.cells 127 8]
def za6b:=EndD.mk (LQ.v intP (LQ.v intP (LQ.v intP (LQ.kp 0 0 (LQ.kp 1 0 (LQ.kp 2 0 (LQ.seq (LP.q providerL) (LQ.seq (LP.q providerL) (LP.q zaqm))))))))) ⟨[1,2,3,5,10,12],[]⟩ [.cells 63 97,.cells 63 97,.cells 127 8]
def zbbp:St→Option LR:=L1 87 6 0 zbm4 (.exit 0) za6b (u7 zbm)
def zs75a:=sub (fb Tryz.f34) [0,1,0,1,1,1]
theorem zbm5:zk (zy75).env 0 zs75a zbbp :=
 zb5 (A:=zbm3) zh75 fM trivial (k:=z8 zs75a) (by kernel_rfl) rfl (by rintro ⟨x0,x1,x2,x3,x4,x5,x6⟩;kernel_rfl)
def zbn (x0:Int) (x1 x2:za): Tr ((Int×za×za)⊕(za×za)) :=
 (.ite (decide (x0 < 2))
  (.guard ((0:Int)≤x0∧(x0:Int) < 2)
  (.guard (((x1.Links.Fresh.get x0)=false→((0:Int)≤x0∧(x0:Int) < 2)∧True))
  (.guard ((0:Int)≤x0∧(x0:Int) < 2)
  (.leaf (.inl (i64.wrap (x0+1),{ x1 with Links:={ x1.Links with Fresh:=(x1.Links.Fresh.set x0 ((x1.Links.Fresh.get x0)||(x1.Links.On.get x0))) } },x2))))))
  (.leaf (.inr (x1,x2))))
def zl7 (x0:Int) (x1 x2:za):=zbl (fun s:Int×za×za=>(zbn s.1 s.2.1 s.2.2).run) (x0,x1,x2)
def zbm6:Ann:=⟨[],[],[],zv75,[]⟩
def zbm7:=EndD.mk (LQ.kp 0 0 (LQ.kp 1 0 (LQ.v intP (LQ.seq (LP.q providerL) (LP.q providerL))))) ⟨[5,10,66],[]⟩ [.cells 63 97,.cells 63 97]
def za6c:=EndD.mk (LQ.kp 0 0 (LQ.kp 1 0 (LQ.seq (LP.q providerL) (LP.q providerL)))) ⟨[5,10],[]⟩ [.cells 63 97,.cells 63 97]
def zbbq:St→Option LR:=L1 87 6 0 zbm7 (.exit 2) za6c (u3 zbn)
def zs75b:=sub (fb Tryz.f34) [0,1,0,1,1,1,1,1,1,1]
theorem zbm8:zk (zy75).env 0 zs75b zbbq :=
 zb5 (A:=zbm6) zh75 fM trivial (k:=z8 zs75b) (by kernel_rfl) rfl (by rintro ⟨x0,x1,x2⟩;kernel_rfl)
def zkb (a0:za) (a1 a2 a3 a4:Int): Tr (za×Int) :=
 (.bind (zcg a0) fun v1 =>
 (.ite (((!v1)||(decide (a4 < 0)))||(decide (a4 > 1099511627776)))
  (.leaf (a0,2))
  (.bind (zgm a1 a2 a3 0 a0 (default:za) (⟨0,0,0,0,i64.wrap (a0.Height+1),i64.wrap (a4+20),0,0⟩:Wait)) fun v2 =>
  (.bind (zmv v2.2.2.2.1.Stake v2.1 v2.2.1 v2.2.2.1 v2.2.2.2.2.2) fun v3 =>
  (.ite (v3.2 != 0)
   (.leaf (v2.2.2.2.1,v3.2))
   (.bind (zl7 0 ({ v2.2.2.2.1 with Stake:=v3.1 }) v2.2.2.2.2.1) fun v4 =>
   (.leaf (v4.1,0))))))))
def zb6 (a0:za) (a1 a2 a3 a4:Int):=(zkb a0 a1 a2 a3 a4).run
def zq2:SpecT:=zn 0 (LQ.v (Par.ofLP providerL) (LQ.v intP (LQ.v intP (LQ.v intP (Par.q intP))))) 5 [] (u5 zkb) default (LQ.v (Par.ofLP providerL) (Par.q intP)) 2 []
theorem z02:ze Tryz.prog 34 (zq2).spec :=
 sK (A:=⟨[([0,1,0,1,1,1],zbbp),([0,1,0,1,1,1,1,1,1,1],zbbq)],[],[],zv75,[]⟩) zh75 fM Tryz.func34 (c:=(fb Tryz.f34)) (by kernel_rfl) (Lc:=0) ⟨zbm5,zbm8,trivial⟩ _ _ 6 _ _ _ _ _ _ [.pubB 10] (by rintro ⟨a0,a1,a2,a3,a4⟩;kernel_rfl)
def zv76:List (List Nat):=[[1,2,4],[1,2,4,8],[4,5],[1,2,4,13],[4,5],[1,2,4,21],[4,5],[1,2,4,28],[4,5],[1,2,4,35],[4,5],[1,2,4],[1,2,4],[1,2,4,64,65],[1,2,4,64,65,66],[1,2,4,6,64,65],[1,2,4,7,64,65],[1,2,4,7,64,65,79],[1,2,4,64,65],[1,2,4,64,65],[1,2,4,64,65],[4,5]]
noncomputable def zy76:EnvT:=⟨Tryz.prog,zw [(78,zd5),(127,zfu),(118,zcx)]⟩
theorem zh76:(zy76).Ok:=zd ⟨zep,zj4,zeh,trivial⟩
def zfl (x0 x1 x2:Int) (x3 x4:za): Tr ((Int×Int×Int×za×za)⊕(za×za)) :=
 (.ite (decide (x2 < x1))
  (.guard ((0:Int)≤x2∧x2 < ((Sl.len (.waits x3.Stake.Waits):Nat):Int))
  (.ite (decide (((x3.Stake.Waits.getD x2.toNat default).Height) > x3.Height))
   (.guard ((0:Int)≤x0∧(x0:Int) < 2)
   (.guard ((0:Int)≤x0∧(x0:Int) < 2)
   (.leaf (.inl (x0,x1,i64.wrap (x2+1),{ x3 with Stake:={ x3.Stake with Waits:=x3.Stake.Waits.set x2.toNat ({ ((x3.Stake.Waits.getD x2.toNat default):Wait) with h0:=if x0=0 then (x3.Stake.Waits.getD x2.toNat default).Height else (x3.Stake.Waits.getD x2.toNat default).h0,h1:=if x0=1 then (x3.Stake.Waits.getD x2.toNat default).Height else (x3.Stake.Waits.getD x2.toNat default).h1 }) },Links:={ x3.Links with Fresh:=(x3.Links.Fresh.set x0 true) } },x4)))))
   (.leaf (.inl (x0,x1,i64.wrap (x2+1),x3,x4)))))
  (.leaf (.inr (x3,x4))))
def zlk (x0 x1 x2:Int) (x3 x4:za):=zbl (fun s:Int×Int×Int×za×za=>(zfl s.1 s.2.1 s.2.2.1 s.2.2.2.1 s.2.2.2.2).run) (x0,x1,x2,x3,x4)
def zbm9:Ann:=⟨[],[],[],zv76,[]⟩
def zbna:=EndD.mk (LQ.map (LQ.v intP (LQ.kp 0 0 (LQ.kp 1 0 (LQ.v intP (LQ.v intP (LQ.v intP (LQ.v intP (LQ.seq (LP.q bankL) (LQ.seq (LP.q validatorsL) (LQ.seq (LP.q (a4L (a6L (LP.one intP)))) (LQ.k (LQ.c (.own 2)) (LQ.v intP (LQ.v zf (LQ.seq (LP.q linksL) (LQ.seq (LP.q meterL) (LQ.v zac (LQ.seq (LP.q providerL) (Par.q zbx)))))))))))))))))) (fun x=>(x.1,x.2.1,x.2.2.1,(⟨x.2.2.2.1,(d4 x).1,(⟨(d4 x).2.1,(d4 x).2.2.1,(d4 x).2.2.2.1,(d12 x).2.2,(d8 x).1⟩:Stake),(d8 x).2.1,(d8 x).2.2.1,(d8 x).2.2.2.1,(d12 x).1⟩:za),(d12 x).2.1)) (fun y=>(y.1,y.2.1,y.2.2.1,y.2.2.2.1.Height,y.2.2.2.1.Time,y.2.2.2.1.Stake.Bank,y.2.2.2.1.Stake.Validators,y.2.2.2.1.Stake.Shares,y.2.2.2.1.Stake.Next,y.2.2.2.1.Set,y.2.2.2.1.Links,y.2.2.2.1.Meter,y.2.2.2.1.Queue,(d4 y),y.2.2.2.1.Stake.Waits)) (fun _=>rfl)) ⟨[1,2,4,64,65],[.nilcell 2 63 127 (.waits [])]⟩ [.cells 63 97,.cells 63 97,.rows 127]
def za6d:=EndD.mk (LQ.map (LQ.kp 0 0 (LQ.kp 1 0 (LQ.v intP (LQ.v intP (LQ.seq (LP.q bankL) (LQ.seq (LP.q validatorsL) (LQ.seq (LP.q (a4L (a6L (LP.one intP)))) (LQ.k (LQ.c (.own 2)) (LQ.v intP (LQ.v zf (LQ.seq (LP.q linksL) (LQ.seq (LP.q meterL) (LQ.v zac (LQ.seq (LP.q providerL) (Par.q zbx))))))))))))))) (fun x=>((⟨x.1,x.2.1,(⟨x.2.2.1,x.2.2.2.1,(d4 x).1,(d8 x).2.2.2,(d4 x).2.1⟩:Stake),(d4 x).2.2.1,(d4 x).2.2.2.1,(d8 x).1,(d8 x).2.1⟩:za),(d8 x).2.2.1)) (fun y=>(y.1.Height,y.1.Time,y.1.Stake.Bank,y.1.Stake.Validators,y.1.Stake.Shares,y.1.Stake.Next,y.1.Set,y.1.Links,y.1.Meter,y.1.Queue,y.2,y.1.Stake.Waits)) (fun _=>rfl)) ⟨[2,4],[.nilcell 2 63 127 (.waits [])]⟩ [.cells 63 97,.cells 63 97,.rows 127]
def zbbr:St→Option LR:=L1 95 5 0 zbna (.exit 1) za6d (u5 zfl)
def zs76a:=sub (fb Tryz.f85) [0,1,0,1,1,1,1]
theorem zbnb:zk (zy76).env 0 zs76a zbbr :=
 zb5 (A:=zbm9) zh76 fM trivial (k:=z8 zs76a) (by kernel_rfl) rfl (by rintro ⟨x0,x1,x2,x3,x4⟩;kernel_rfl)
def zr5 (a0:za) (a1:Int): Tr (za×Int) :=
 (.bind (zcg a0) fun v1 =>
 (.ite (!v1)
  (.leaf (a0,2))
  (.ite ((decide (a1 < 0))||(decide (a1≥2)))
   (.leaf (a0,4))
   (.guard ((0:Int)≤a1∧(a1:Int) < 2)
   (.ite (a0.Links.Gone.get a1)
    (.leaf (a0,11))
    (.guard ((0:Int)≤a1∧(a1:Int) < 2)
    (.ite (a0.Links.On.get a1)
     (.leaf (a0,5))
     (.ite ((decide (a0.Height < 1))||(((a0.Set.length:Nat):Int)==0))
      (.leaf (a0,13))
      (.guard ((za1 a0.Set).isSome=true)
      (.guard ((0:Int)≤a1∧(a1:Int) < 2)
      (.bind (zz a0.Stake.Waits) fun v2 =>
      (.bind (zlk a1 ((v2.length:Nat):Int) 0 ({ a0 with Stake:={ a0.Stake with Waits:=v2 },Links:=(⟨(a0.Links.On.set a1 true),(a0.Links.Gone.set a1 false),(a0.Links.Base.set a1 a0.Height),(a0.Links.Told.set a1 ((za1 a0.Set).getD default)),(a0.Links.Fresh.set a1 false),(a0.Links.Done.set a1 []),(a0.Links.Said.set a1 []),(a0.Links.Due.set a1 []),(a0.Links.Got.set a1 0),(a0.Links.Closed.set a1 false),(a0.Links.SHeight.set a1 0),(a0.Links.STime.set a1 0),(a0.Links.SSaid.set a1 0),(a0.Links.SGot.set a1 0)⟩:Links) }) (default:za)) fun v3 =>
      (.leaf (v3.1,0))))))))))))))
def za3 (a0:za) (a1:Int):=(zr5 a0 a1).run
def z0v:SpecT:=zn 0 (LQ.v (Par.ofLP providerL) (Par.q intP)) 2 [] (u2 zr5) default (LQ.v (Par.ofLP providerL) (Par.q intP)) 2 []
theorem z9g:ze Tryz.prog 85 (z0v).spec :=
 sK (A:=⟨[([0,1,0,1,1,1,1],zbbr)],[],[],zv76,[]⟩) zh76 fM Tryz.func85 (c:=(fb Tryz.f85)) (by kernel_rfl) (Lc:=0) ⟨zbnb,trivial⟩ _ _ 5 _ _ _ _ _ _ [.pubB 4] (by rintro ⟨a0,a1⟩;kernel_rfl)
def zm0 (a0:Asked) (a1:Int): Tr (Bool×Int) :=
 (.leaf (a0.C==a1,a1))
def zgv (a0:Asked) (a1:Int):=(zm0 a0 a1).run
def zm1:SpecT:=zn 1 (LQ.v (Par.ofLP z4c) (LQ.kp 0 0 (Par.q intP))) 2 [.cells 3 1] (u2 zm0) default (LQ.v boolP (Par.q intP)) 1 [.cells 3 1]
theorem zsp:ze Tryz.prog 182 (zm1).spec :=
 sK (A:=⟨[],[],[],[[1,2],[3]],[]⟩) zhN fM Tryz.func182 (c:=(fb Tryz.f182)) (by kernel_rfl) (Lc:=1) trivial _ _ 4 _ _ _ _ _ _ [] (by rintro ⟨a0,a1⟩;kernel_rfl)
def zv78:List (List Nat):=[[0,1],[0,1,7,8],[0,1,7,8,9],[0,1,5,7,8],[0,1,5,7,8,16],[4],[0,1,7,8],[4]]
noncomputable def zy78:EnvT:=⟨Tryz.prog,zw [(182,zm1)]⟩
theorem zh78:(zy78).Ok:=zd ⟨zsp,trivial⟩
def zat (x0 x1 x2:Int) (x3:(List Asked)): Tr ((Int×Int×Int×(List Asked))⊕((Int×Int×(List Asked))⊕(Int×(List Asked)))) :=
 (.ite (decide (x1 < x0))
  (.guard ((0:Int)≤x1∧x1 < ((Sl.len (.asked x3):Nat):Int))
  (.bind (zgv (x3.getD x1.toNat default) x2) fun v1 =>
  (.ite (v1.1)
   (.leaf (.inr (.inl (x1,v1.2,x3))))
   (.leaf (.inl (x0,i64.wrap (x1+1),v1.2,x3))))))
  (.leaf (.inr (.inr (x2,x3)))))
def zcw (x0 x1 x2:Int) (x3:(List Asked)):=zbl (fun s:Int×Int×Int×(List Asked)=>(zat s.1 s.2.1 s.2.2.1 s.2.2.2).run) (x0,x1,x2,x3)
def zbnc:Ann:=⟨[],[],[],zv78,[]⟩
def zbnd:=EndD.mk (LQ.k (LQ.c (.own 1)) (LQ.k (LQ.c (.fn 182 [.ptr 0 0])) (LQ.v intP (LQ.v intP (LQ.v intP (Par.q zac)))))) ⟨[0,1,7,8],[.nilown 0 112 (.asked [])]⟩ [.cells 3 1,.rows 112]
def za6e:=EndD.mk (LQ.v intP (LQ.v intP (Par.q zac))) ⟨[4],[]⟩ [.cells 3 1,.rows 112]
def za6f:=EndD.mk (LQ.v intP (Par.q zac)) ⟨[],[]⟩ [.cells 3 1,.rows 112]
def zbbs:St→Option LR:=L2 19 4 2 zbnd .ret za6e (.exit 0) za6f (u4 zat)
def zs78a:=sub (fb Tryz.f151) [0,1,0,1]
theorem zbne:zk (zy78).env 2 zs78a zbbs :=
 zgs (A:=zbnc) zh78 fM trivial (k:=z8 zs78a) (by kernel_rfl) rfl rfl (by rintro ⟨x0,x1,x2,x3⟩;kernel_rfl)
def zd6 (a0:Int) (a1:(List Asked)): Tr (Int×Int×(List Asked)) :=
 (.two (zcw ((a1.length:Nat):Int) 0 a0 a1) (fun v2 =>
  (.leaf (v2.1,v2.2.1,v2.2.2))) (fun v3 =>
  (.leaf (-1,v3.1,v3.2))))
def zbu (a0:Int) (a1:(List Asked)):=(zd6 a0 a1).run
def zhp:SpecT:=zn 2 (LQ.k (LQ.c (.own 1)) (LQ.k (LQ.c (.fn 182 [.ptr 0 0])) (LQ.v intP (Par.q zac)))) 2 [.cells 3 1,.rows 112] (u2 zd6) default (LQ.v intP (LQ.v intP (Par.q zac))) 1 [.cells 3 1,.rows 112]
theorem zpu:ze Tryz.prog 151 (zhp).spec :=
 sK (A:=⟨[([0,1,0,1],zbbs)],[],[],zv78,[]⟩) zh78 fM Tryz.func151 (c:=(fb Tryz.f151)) (by kernel_rfl) (Lc:=2) ⟨zbne,trivial⟩ _ _ 4 _ _ _ _ _ _ [] (by rintro ⟨a0,a1⟩;kernel_rfl)
def zv79:List (List Nat):=[[0,1],[0,1,5],[0,1,5,12],[4],[0,1,5,6],[0,1,5,6,19],[0,1,5,6],[0,1,5,6,7],[0,1,5,6,7,29],[0,1,5,6],[0,1,5,6],[0,5],[4]]
noncomputable def zy79:EnvT:=⟨Tryz.prog,zw [(151,zhp),(182,zm1)]⟩
theorem zh79:(zy79).Ok:=zd ⟨zpu,zsp,trivial⟩
def zbbt:St→Option LR:=clearL 0 5 36 37 38
def zs79A:=sub (fb Tryz.f181) [0,1,1,1,1]
theorem zbng:zk (zy79).env 1 zs79A zbbt :=
 zav5 (T:=61) (E:=112) (z:=(zr Tryz.prog (zeroValue 112)).getD undef) (by kernel_rfl) (by kernel_rfl) (by kernel_rfl) (by kernel_rfl) (by decide) (by decide) (by kernel_rfl) (by kernel_rfl) (by kernel_rfl) (by kernel_rfl)
def zay (x0 x1 x2:Int) (x3:(List Asked)): Tr ((Int×Int×Int×(List Asked))⊕(Int×Int×(List Asked))) :=
 (.ite (decide (x1 < ((x3.length:Nat):Int)))
  (.guard ((0:Int)≤x1∧x1 < ((Sl.len (.asked x3):Nat):Int))
  (.bind (zgv (x3.getD x1.toNat default) x2) fun v2 =>
  (.ite (!v2.1)
   (.guard ((0:Int)≤x0∧x0 < ((Sl.len (.asked x3):Nat):Int))
   (.leaf (.inl (i64.wrap (x0+1),i64.wrap (x1+1),v2.2,x3.set x0.toNat (x3.getD x1.toNat default)))))
   (.leaf (.inl (x0,i64.wrap (x1+1),v2.2,x3))))))
  (.leaf (.inr (x0,x2,x3))))
def zc3 (x0 x1 x2:Int) (x3:(List Asked)):=zbl (fun s:Int×Int×Int×(List Asked)=>(zay s.1 s.2.1 s.2.2.1 s.2.2.2).run) (x0,x1,x2,x3)
def zbnh:Ann:=⟨[],[],[],zv79,[]⟩
def zbni:=EndD.mk (LQ.k (LQ.c (.own 1)) (LQ.k (LQ.c (.fn 182 [.ptr 0 0])) (LQ.v intP (LQ.v intP (LQ.v intP (Par.q zac)))))) ⟨[0,1,5,6],[.nilown 0 112 (.asked [])]⟩ [.cells 3 1,.rows 112]
def za6g:=EndD.mk (LQ.k (LQ.c (.own 1)) (LQ.v intP (LQ.v intP (Par.q zac)))) ⟨[0,5],[.nilown 0 112 (.asked [])]⟩ [.cells 3 1,.rows 112]
def zbbu:St→Option LR:=L1 42 5 1 zbni (.exit 0) za6g (u4 zay)
def zs79a:=sub (fb Tryz.f181) [0,1,0,1,1,1]
theorem zbnj:zk (zy79).env 1 zs79a zbbu :=
 zb5 (A:=zbnh) zh79 fM trivial (k:=z8 zs79a) (by kernel_rfl) rfl (by rintro ⟨x0,x1,x2,x3⟩;kernel_rfl)
def zeq (a0:Int) (a1:(List Asked)): Tr (Int×(List Asked)) :=
 (.bind (zbu a0 a1) fun v1 =>
 (.ite (v1.1==(-1))
  (.leaf (v1.2.1,v1.2.2))
  (.bind (zc3 v1.1 (i64.wrap (v1.1+1)) v1.2.1 v1.2.2) fun v3 =>
  (.bind (zajx v3.2.2 v3.1) fun v4 =>
  (.guard ((0:Int)≤v3.1∧v3.1≤((Sl.len (.asked v4):Nat):Int))
  (.leaf (v3.2.1,((v4.drop 0).take (v3.1.toNat - 0)))))))))
def zd7 (a0:Int) (a1:(List Asked)):=(zeq a0 a1).run
def zis:SpecT:=zn 1 (LQ.k (LQ.c (.own 1)) (LQ.k (LQ.c (.fn 182 [.ptr 0 0])) (LQ.v intP (Par.q zac)))) 2 [.cells 3 1,.rows 112] (u2 zeq) default (LQ.k (LQ.c (.own 1)) (LQ.v intP (Par.q zac))) 1 [.cells 3 1,.rows 112]
theorem zq3:ze Tryz.prog 181 (zis).spec :=
 sK (A:=⟨[([0,1,0,1,1,1],zbbu),([0,1,1,1,1],zbbt)],[],[],zv79,[]⟩) zh79 fM Tryz.func181 (c:=(fb Tryz.f181)) (by kernel_rfl) (Lc:=1) ⟨zbnj,zbng,trivial⟩ _ _ 5 _ _ _ _ _ _ [.nilown 4 112 (.asked [])] (by rintro ⟨a0,a1⟩;kernel_rfl)
noncomputable def zy80:EnvT:=⟨Tryz.prog,zw [(78,zd5),(161,zt7),(179,zg0),(181,zis)]⟩
theorem zh80:(zy80).Ok:=zd ⟨zep,z0s,zl1,zq3,trivial⟩
def zpv (a0:za) (a1:Int): Tr (za) :=
 (.bind (zcg a0) fun v1 =>
 (.guard (((((!v1)||(decide (a1 < 0)))||(decide (a1≥2)))=false→((0:Int)≤a1∧(a1:Int) < 2)∧True))
 (.ite ((((!v1)||(decide (a1 < 0)))||(decide (a1≥2)))||(!(a0.Links.On.get a1)))
  (.leaf a0)
  (.guard ((0:Int)≤a1∧(a1:Int) < 2)
  (.guard ((0:Int)≤a1∧(a1:Int) < 2)
  (.guard ((0:Int)≤a1∧(a1:Int) < 2)
  (.guard ((0:Int)≤a1∧(a1:Int) < 2)
  (.guard ((0:Int)≤a1∧(a1:Int) < 2)
  (.bind (zim a0.Stake a1 1099511627776) fun v2 =>
  (.bind (zbc a0.Queue) fun v3 =>
  (.bind (zd7 a1 v3) fun v4 =>
  (.leaf ({ a0 with Stake:=v2,Links:={ a0.Links with On:=(a0.Links.On.set a1 false),Gone:=(a0.Links.Gone.set a1 true),Fresh:=(a0.Links.Fresh.set a1 false),Done:=(a0.Links.Done.set a1 []),Closed:=(a0.Links.Closed.set a1 true) },Queue:=v4.2 })))))))))))))
def zel (a0:za) (a1:Int):=(zpv a0 a1).run
def zye:SpecT:=zn 0 (LQ.v (Par.ofLP providerL) (Par.q intP)) 2 [] (u2 zpv) default (Par.q (Par.ofLP providerL)) 1 []
theorem z72:ze Tryz.prog 137 (zye).spec :=
 sK (A:=⟨[],[],[],[[2,3,4],[2,3,4,23],[4],[2,3,4],[2,3,4],[2,3,4],[2,4],[4]],[]⟩) zh80 fM Tryz.func137 (c:=(fb Tryz.f137)) (by kernel_rfl) (Lc:=0) trivial _ _ 7 _ _ _ _ _ _ [.pubB 4] (by rintro ⟨a0,a1⟩;kernel_rfl)
noncomputable def zy81:EnvT:=⟨Tryz.prog,zw [(178,zw8),(78,zd5),(179,zg0)]⟩
theorem zh81:(zy81).Ok:=zd ⟨z14,zep,zl1,trivial⟩
def zul (a0:za) (a1:Int) (a2:ByteArray): Tr (za×Int) :=
 (.bind (zg6 a2) fun v1 =>
 (.bind (zcg a0) fun v2 =>
 (.ite (!v2)
  (.leaf (a0,2))
  (.guard ((((decide (a1 < 0))||(decide (a1≥2)))=false→((0:Int)≤a1∧(a1:Int) < 2)∧True))
  (.ite (((decide (a1 < 0))||(decide (a1≥2)))||(!(a0.Links.On.get a1)))
   (.leaf (a0,4))
   (.ite (v1.2 != 0)
    (.leaf (a0,v1.2))
    (.ite (v1.1.Kind==1)
     (.leaf (a0,3))
     (.guard ((zbc a0.Queue).isSome=true)
     (.guard ((Sl.len (.asked ((zbc a0.Queue).getD default))+Sl.len (.asked [(⟨a1,v1.1⟩:Asked)]))*88≤140737488355328)
     (.leaf ({ a0 with Queue:=((zbc a0.Queue).getD default)++[(⟨a1,v1.1⟩:Asked)] },0)))))))))))
def zbt (a0:za) (a1:Int) (a2:ByteArray):=(zul a0 a1 a2).run
def z2g:SpecT:=zn 0 (LQ.v (Par.ofLP providerL) (LQ.v intP (Par.q z67))) 3 [] (u3 zul) default (LQ.v (Par.ofLP providerL) (Par.q intP)) 2 []
theorem zaa4:ze Tryz.prog 134 (z2g).spec :=
 sK (A:=⟨[],[],[],[[1,2,3,6],[1,3,6,8,9],[1,3,6,8,9,15],[6,7],[1,3,6,8,9,20],[6,7],[1,3,6,8,9,36],[6,7],[1,3,6,8,41],[6,7],[3,6],[6,7]],[]⟩) zh81 fM Tryz.func134 (c:=(fb Tryz.f134)) (by kernel_rfl) (Lc:=0) trivial _ _ 8 _ _ _ _ _ _ [.pubB 6] (by rintro ⟨a0,a1,a2⟩;kernel_rfl)
noncomputable def zy82:EnvT:=⟨Tryz.prog,zw [(78,zd5),(82,zzx),(83,z19)]⟩
theorem zh82:(zy82).Ok:=zd ⟨zep,z4i,z7v,trivial⟩
def zm2 (a0:za) (a1 a2:Int): Tr (za×Int) :=
 (.bind (zcg a0) fun v1 =>
 (.ite (!v1)
  (.leaf (a0,2))
  (.ite ((decide (a1 < 0))||(decide (a1≥6)))
   (.leaf (a0,4))
   (.ite ((decide (a2 < 1))||(decide (a2 > a0.Height)))
    (.leaf (a0,2))
    (.guard ((0:Int)≤a1∧(a1:Int) < 6)
    (.ite (a0.Stake.Validators.Dead.get a1)
     (.leaf (a0,15))
     (.bind (zi3 a0.Stake a1 a2 50) fun v2 =>
     (.ite (v2.2.2 != 0)
      (.leaf (a0,v2.2.2))
      (.bind (zn9 v2.1 a1) fun v3 =>
      (.ite (v3.2 != 0)
       (.leaf (a0,v3.2))
       (.leaf ({ a0 with Stake:=v3.1 },0))))))))))))
def zll (a0:za) (a1 a2:Int):=(zm2 a0 a1 a2).run
def zum:SpecT:=zn 0 (LQ.v (Par.ofLP providerL) (LQ.v intP (Par.q intP))) 3 [] (u3 zm2) default (LQ.v (Par.ofLP providerL) (Par.q intP)) 2 []
theorem z3z:ze Tryz.prog 36 (zum).spec :=
 sK (A:=⟨[],[],[],[[1,2,3,6],[1,2,3,6,11],[6,7],[1,2,3,6,16],[6,7],[1,2,3,6,24],[6,7],[1,2,3,6,34],[6,7],[1,3,6,8,10],[1,3,6,8,10,52],[6,7],[3,6,8,10],[3,6,8,10,62],[6,7],[3,6],[6,7]],[]⟩) zh82 fM Tryz.func36 (c:=(fb Tryz.f36)) (by kernel_rfl) (Lc:=0) trivial _ _ 5 _ _ _ _ _ _ [.pubB 6] (by rintro ⟨a0,a1,a2⟩;kernel_rfl)
noncomputable def zy83:EnvT:=⟨Tryz.prog,zw [(172,zaai),(173,zqm),(174,z9d),(127,zfu)]⟩
theorem zh83:(zy83).Ok:=zd ⟨zaip,zt4,zacz,zj4,trivial⟩
def zun (a0 a1:Int) (a2:za): Tr (za) :=
 (.guard ((0:Int)≤a0∧(a0:Int) < 2)
 (.guard ((zf5 (a2.Links.Told.get a0) a2.Set).isSome=true)
 (.ite ((!(a2.Links.On.get a0))||(((((((zf5 (a2.Links.Told.get a0) a2.Set).getD default).length:Nat):Int)==0)&&(!(a2.Links.Fresh.get a0)))&&((((a2.Links.Done.get a0).length:Nat):Int)==0)))
  (.leaf a2)
  (.guard ((zb9 (⟨1,a2.Height,0,0,((zf5 (a2.Links.Told.get a0) a2.Set).getD default),a2.Links.Done.get a0⟩:Packet)).isSome=true)
  (.ite ((((zb9 (⟨1,a2.Height,0,0,((zf5 (a2.Links.Told.get a0) a2.Set).getD default),a2.Links.Done.get a0⟩:Packet)).getD default).2) != 0)
   (.leaf a2)
   (.bind (zzq (⟨a2.Links.Said.get a0,a2.Links.Due.get a0,a2.Links.Got.get a0,a2.Links.Closed.get a0⟩:zbs) (((zb9 (⟨1,a2.Height,0,0,((zf5 (a2.Links.Told.get a0) a2.Set).getD default),a2.Links.Done.get a0⟩:Packet)).getD default).1) (i64.wrap (a1+40))) fun v1 =>
   (.ite (v1.2 != 0)
    (.leaf a2)
    (.guard ((za1 a2.Set).isSome=true)
    (.leaf ({ a2 with Links:={ a2.Links with Told:=(a2.Links.Told.set a0 ((za1 a2.Set).getD default)),Fresh:=(a2.Links.Fresh.set a0 false),Done:=(a2.Links.Done.set a0 []),Said:=(a2.Links.Said.set a0 v1.1.Said),Due:=(a2.Links.Due.set a0 v1.1.Due),Got:=(a2.Links.Got.set a0 v1.1.Got),Closed:=(a2.Links.Closed.set a0 v1.1.Closed) } }))))))))))
def zmm (a0 a1:Int) (a2:za):=(zun a0 a1 a2).run
def z2h:SpecT:=zn 1 (LQ.kp 0 0 (LQ.v intP (LQ.v intP (LP.q providerL)))) 3 [.cells 63 97] (u3 zun) default (LP.q providerL) 0 [.cells 63 97]
theorem zaa5:ze Tryz.prog 126 (z2h).spec :=
 sK (A:=⟨[],[],[],[[0,2,6],[0,2,6,7],[0,2,6,7,49],[0,2,6,8,9],[0,2,6,8,65],[0,6,9,10],[0,6,10,78],[]],[]⟩) zh83 fM Tryz.func126 (c:=(fb Tryz.f126)) (by kernel_rfl) (Lc:=1) trivial _ _ 4 _ _ _ _ _ _ [.pubN 0] (by rintro ⟨a0,a1,a2⟩;kernel_rfl)
def zuo (a0:Int): Tr (Bool) :=
 (.leaf (a0 != a0))
def zit (a0:Int):=(zuo a0).run
def z2i:SpecT:=zn 0 (Par.q intP) 1 [] zuo default (Par.q boolP) 1 []
theorem zaa6:ze Tryz.prog 203 (z2i).spec :=
 sK (A:=⟨[],[],[],[[0],[2]],[]⟩) zhN fM Tryz.func203 (c:=(fb Tryz.f203)) (by kernel_rfl) (Lc:=0) trivial _ _ 2 _ _ _ _ _ _ [] (by rintro a0;kernel_rfl)
noncomputable def zy85:EnvT:=⟨Tryz.prog,zw [(203,z2i)]⟩
theorem zh85:(zy85).Ok:=zd ⟨zaa6,trivial⟩
def zxg (a0 a1:Int): Tr (Bool) :=
 (.bind (zit a0) fun v1 =>
 (.guard ((v1=true→((zit a1).isSome=true)∧True))
 (.leaf ((v1&&(!((zit a1).getD default)))||(decide (a0 < a1))))))
def zup (a0 a1:Int):=(zxg a0 a1).run
def z4n:SpecT:=zn 0 (LQ.v intP (Par.q intP)) 2 [] (u2 zxg) default (Par.q boolP) 1 []
theorem zade:ze Tryz.prog 188 (z4n).spec :=
 sK (A:=⟨[],[],[],[[0,1],[4]],[]⟩) zh85 fM Tryz.func188 (c:=(fb Tryz.f188)) (by kernel_rfl) (Lc:=0) trivial _ _ 2 _ _ _ _ _ _ [] (by rintro ⟨a0,a1⟩;kernel_rfl)
def zof (a0:Int): Tr (Bool) :=
 (.leaf (a0 != a0))
def zcj (a0:Int):=(zof a0).run
def zv6:SpecT:=zn 0 (Par.q intP) 1 [] zof default (Par.q boolP) 1 []
theorem z5z:ze Tryz.prog 189 (zv6).spec :=
 sK (A:=⟨[],[],[],[[0],[2]],[]⟩) zhN fM Tryz.func189 (c:=(fb Tryz.f189)) (by kernel_rfl) (Lc:=0) trivial _ _ 2 _ _ _ _ _ _ [] (by rintro a0;kernel_rfl)
def zv87:List (List Nat):=[[0,1],[0,1,6],[0,1,6,7,8],[0,1,6,7,8,15],[0,1,6,7,8,9],[0,1,6,7,8,9,27],[0,1,6,7,8],[0,1,6,7,8],[4,5]]
noncomputable def zy87:EnvT:=⟨Tryz.prog,zw [(188,z4n),(189,zv6)]⟩
theorem zh87:(zy87).Ok:=zd ⟨zade,z5z,trivial⟩
def zcv (x0:(List Int)) (x1 x2 x3 x4:Int): Tr (((List Int)×Int×Int×Int×Int)⊕((List Int)×Int×Int×Int)) :=
 (.ite (decide (x3 < x4))
  (.guard ((0:Int)≤1)
  (.guard ((0:Int)≤(i64.wrap (Int.fdiv (u64.wrap (i64.wrap (x3+x4))) (2 ^ 1)))∧(i64.wrap (Int.fdiv (u64.wrap (i64.wrap (x3+x4))) (2 ^ 1))) < ((Sl.len (.ints x0):Nat):Int))
  (.bind (zup (x0.getD ((i64.wrap (Int.fdiv (u64.wrap (i64.wrap (x3+x4))) (2 ^ 1))).toNat) 0) x1) fun v1 =>
  (.ite (v1)
   (.leaf (.inl (x0,x1,x2,i64.wrap ((i64.wrap (Int.fdiv (u64.wrap (i64.wrap (x3+x4))) (2 ^ 1)))+1),x4)))
   (.leaf (.inl (x0,x1,x2,x3,i64.wrap (Int.fdiv (u64.wrap (i64.wrap (x3+x4))) (2 ^ 1)))))))))
  (.leaf (.inr (x0,x1,x2,x3))))
def ziu (x0:(List Int)) (x1 x2 x3 x4:Int):=zbl (fun s:(List Int)×Int×Int×Int×Int=>(zcv s.1 s.2.1 s.2.2.1 s.2.2.2.1 s.2.2.2.2).run) (x0,x1,x2,x3,x4)
def zbnk:Ann:=⟨[],[],[],zv87,[]⟩
def zbnl:=EndD.mk (LQ.v za7 (LQ.v intP (LQ.v intP (LQ.v intP (Par.q intP))))) ⟨[0,1,6,7,8],[.pub 0,.nilsl 0 (.ints [])]⟩ []
def za6h:=EndD.mk (LQ.v za7 (LQ.v intP (LQ.v intP (Par.q intP)))) ⟨[0,1,6,7],[.pub 0,.nilsl 0 (.ints [])]⟩ []
def zbbv:St→Option LR:=L1 54 2 0 zbnl (.exit 0) za6h (u5 zcv)
def zs87a:=sub (fb Tryz.f164) [0,0,1,1,1]
theorem zbnm:zk (zy87).env 0 zs87a zbbv :=
 zb5 (A:=zbnk) zh87 fM trivial (k:=z8 zs87a) (by kernel_rfl) rfl (by rintro ⟨x0,x1,x2,x3,x4⟩;kernel_rfl)
def zgn (a0:(List Int)) (a1:Int): Tr (Int×Bool) :=
 (.bind (ziu a0 a1 ((a0.length:Nat):Int) 0 ((a0.length:Nat):Int)) fun v2 =>
 (.guard (((decide (v2.2.2.2 < v2.2.2.1))=true→((0:Int)≤v2.2.2.2∧v2.2.2.2 < ((Sl.len (.ints v2.1):Nat):Int))∧True))
 (.guard ((((v2.1.getD v2.2.2.2.toNat 0)==v2.2.1)=false→((decide (v2.2.2.2 < v2.2.2.1))=true→((0:Int)≤v2.2.2.2∧v2.2.2.2 < ((Sl.len (.ints v2.1):Nat):Int))∧True)))
 (.guard ((((v2.1.getD v2.2.2.2.toNat 0)==v2.2.1)=false→((decide (v2.2.2.2 < v2.2.2.1))=true→((zcj (v2.1.getD v2.2.2.2.toNat 0)).isSome=true)∧True)))
 (.guard ((((zcj (v2.1.getD v2.2.2.2.toNat 0)).getD default)=true→(((v2.1.getD v2.2.2.2.toNat 0)==v2.2.1)=false→((decide (v2.2.2.2 < v2.2.2.1))=true→((zcj v2.2.1).isSome=true)∧True))))
 (.leaf (v2.2.2.2,(decide (v2.2.2.2 < v2.2.2.1))&&(((v2.1.getD v2.2.2.2.toNat 0)==v2.2.1)||(((zcj (v2.1.getD v2.2.2.2.toNat 0)).getD default)&&((zcj v2.2.1).getD default))))))))))
def zy (a0:(List Int)) (a1:Int):=(zgn a0 a1).run
def zl8:SpecT:=zn 0 (LQ.v za7 (Par.q intP)) 2 [] (u2 zgn) default (LQ.v intP (Par.q boolP)) 2 []
theorem zvj:ze Tryz.prog 164 (zl8).spec :=
 sK (A:=⟨[([0,0,1,1,1],zbbv)],[],[],zv87,[]⟩) zh87 fM Tryz.func164 (c:=(fb Tryz.f164)) (by kernel_rfl) (Lc:=0) ⟨zbnm,trivial⟩ _ _ 2 _ _ _ _ _ _ [] (by rintro ⟨a0,a1⟩;kernel_rfl)
noncomputable def zy88:EnvT:=⟨Tryz.prog,zw [(161,zt7),(162,zaae),(163,zaah),(164,zl8),(166,znx),(165,F_slices_Insert_int),(82,zzx),(83,z19)]⟩
theorem zh88:(zy88).Ok:=zd ⟨z0s,zail,zaio,zvj,zt1,z3v,z4i,z7v,trivial⟩
def zuq (a0:Asked) (a1:za): Tr (Bool×za) :=
 (.guard ((0:Int)≤a0.P.V∧(a0.P.V:Int) < 6)
 (.guard ((0:Int)≤a0.C∧(a0.C:Int) < 2)
 (.ite (a0.P.Kind==2)
  (.guard ((zim a1.Stake a0.C a0.P.Id).isSome=true)
  (.leaf (true,{ a1 with Stake:=((zim a1.Stake a0.C a0.P.Id).getD default) })))
  (.ite (a0.P.Kind==3)
   (.ite (!(a1.Stake.Validators.Jailed.get a0.P.V))
    (.guard ((100:Int)≠0)
    (.guard ((zkx a1.Meter (if (i64.wrap (Int.tdiv (a1.Stake.Validators.Tokens.get a0.P.V) 100)) > 1 then (i64.wrap (Int.tdiv (a1.Stake.Validators.Tokens.get a0.P.V) 100)) else 1)).isSome=true)
    (.ite (!(((zkx a1.Meter (if (i64.wrap (Int.tdiv (a1.Stake.Validators.Tokens.get a0.P.V) 100)) > 1 then (i64.wrap (Int.tdiv (a1.Stake.Validators.Tokens.get a0.P.V) 100)) else 1)).getD default).2))
     (.leaf (false,a1))
     (.guard ((zn8 a1.Stake a0.P.V).isSome=true)
     (.guard ((zy (a1.Links.Done.get a0.C) a0.P.V).isSome=true)
     (.ite (!(((zy (a1.Links.Done.get a0.C) a0.P.V).getD default).2))
      (.guard ((zaj (a1.Links.Done.get a0.C)).isSome=true)
      (.guard ((zdc ((zaj (a1.Links.Done.get a0.C)).getD default) (((zy (a1.Links.Done.get a0.C) a0.P.V).getD default).1) [a0.P.V]).isSome=true)
      (.leaf (true,{ a1 with Stake:=(((zn8 a1.Stake a0.P.V).getD default).1),Links:={ a1.Links with Done:=(a1.Links.Done.set a0.C ((zdc ((zaj (a1.Links.Done.get a0.C)).getD default) (((zy (a1.Links.Done.get a0.C) a0.P.V).getD default).1) [a0.P.V]).getD default)) },Meter:=(((zkx a1.Meter (if (i64.wrap (Int.tdiv (a1.Stake.Validators.Tokens.get a0.P.V) 100)) > 1 then (i64.wrap (Int.tdiv (a1.Stake.Validators.Tokens.get a0.P.V) 100)) else 1)).getD default).1) }))))
      (.leaf (true,{ a1 with Stake:=(((zn8 a1.Stake a0.P.V).getD default).1),Meter:=(((zkx a1.Meter (if (i64.wrap (Int.tdiv (a1.Stake.Validators.Tokens.get a0.P.V) 100)) > 1 then (i64.wrap (Int.tdiv (a1.Stake.Validators.Tokens.get a0.P.V) 100)) else 1)).getD default).1) }))))))))
    (.guard ((zy (a1.Links.Done.get a0.C) a0.P.V).isSome=true)
    (.ite (!(((zy (a1.Links.Done.get a0.C) a0.P.V).getD default).2))
     (.guard ((zaj (a1.Links.Done.get a0.C)).isSome=true)
     (.guard ((zdc ((zaj (a1.Links.Done.get a0.C)).getD default) (((zy (a1.Links.Done.get a0.C) a0.P.V).getD default).1) [a0.P.V]).isSome=true)
     (.leaf (true,{ a1 with Links:={ a1.Links with Done:=(a1.Links.Done.set a0.C ((zdc ((zaj (a1.Links.Done.get a0.C)).getD default) (((zy (a1.Links.Done.get a0.C) a0.P.V).getD default).1) [a0.P.V]).getD default)) } }))))
     (.leaf (true,a1)))))
   (.ite (a0.P.Kind==4)
    (.ite (!(a1.Stake.Validators.Dead.get a0.P.V))
     (.guard ((zi3 a1.Stake a0.P.V (if (a1.Links.Base.get a0.C) > a0.P.Id then (a1.Links.Base.get a0.C) else a0.P.Id) 50).isSome=true)
     (.guard ((zn9 (((zi3 a1.Stake a0.P.V (if (a1.Links.Base.get a0.C) > a0.P.Id then (a1.Links.Base.get a0.C) else a0.P.Id) 50).getD default).1) a0.P.V).isSome=true)
     (.leaf (true,{ a1 with Stake:=(((zn9 (((zi3 a1.Stake a0.P.V (if (a1.Links.Base.get a0.C) > a0.P.Id then (a1.Links.Base.get a0.C) else a0.P.Id) 50).getD default).1) a0.P.V).getD default).1) }))))
     (.leaf (true,a1)))
    (.leaf (true,a1)))))))
def zr6 (a0:Asked) (a1:za):=(zuq a0 a1).run
def z2j:SpecT:=zn 1 (LQ.kp 0 0 (LQ.v (Par.ofLP z4c) (LP.q providerL))) 2 [.cells 63 97] (u2 zuq) default (LQ.v boolP (LP.q providerL)) 1 [.cells 63 97]
theorem zaa7:ze Tryz.prog 123 (z2j).spec :=
 sK (A:=⟨[],[],[],[[0,3],[0,3,5],[0,3,5,6],[0,3,5,6,28],[0,3,5,6,28,29],[],[0,3,5,6,28,44],[0,3,5,6,48],[0,3,6,7,8],[0,3,6,7,62],[4],[0,3,6],[3,6],[3,6,9,10],[3,6,9,93],[],[0,3,5,6,108],[0,3,6,112],[0,3],[],[4]],[]⟩) zh88 fM Tryz.func123 (c:=(fb Tryz.f123)) (by kernel_rfl) (Lc:=1) trivial _ _ 9 _ _ _ _ _ _ [.pubN 0] (by rintro ⟨a0,a1⟩;kernel_rfl)
def zv89:List (List Nat):=[[1,2,4],[1,2,4,27],[4,5,6],[1,2,4],[1,2,4],[1,2,4,7],[1,2,4,7,8],[1,2,4,7,8,44,45,46],[1,2,4,7,8,44,45,46,47],[1,2,4,7,8,10,44,45,46],[1,2,4,7,8,10,44,45,46,58],[1,2,4,7,8,10,44,45,46],[1,2,4,7,8,44,45,46],[1,2,4,7,8,44,45,46],[1,2,4],[1,2,4,11,12,13],[1,2,4,11,12,13,78],[4,5,6],[1,2,4,12],[1,2,4,12],[1,2,4,12,87],[1,2,4,12,87,88],[1,2,4,12,14,87],[1,2,4,12,87],[1,2,4,12,87],[4,5,6]]
noncomputable def zy89:EnvT:=⟨Tryz.prog,zw [(78,zd5),(122,zac9),(121,zaad),(123,z2j),(124,zac7),(125,zada),(126,z2h)]⟩
theorem zh89:(zy89).Ok:=zd ⟨zep,zakq,zaik,zaa7,zakp,zakr,zaa5,trivial⟩
def zhd (x0:Int) (x1:(List Asked)) (x2 x3:Int) (x4 x5:za) (x6:(A2 Bool)) (x7:(List Asked)): Tr ((Int×(List Asked)×Int×Int×za×za×(A2 Bool)×(List Asked))⊕(Int×za×za×(List Asked))) :=
 (.ite (decide (x3 < x2))
  (.guard ((0:Int)≤x3∧x3 < ((Sl.len (.asked x1):Nat):Int))
  (.guard ((0:Int)≤((x1.getD x3.toNat default).C)∧(((x1.getD x3.toNat default).C):Int) < 2)
  (.ite (x6.get ((x1.getD x3.toNat default).C))
   (.ite ((true:Bool))
    (.ite ((true:Bool))
     (.ite ((true:Bool))
      (.guard ((0:Int)≤((x1.getD x3.toNat default).C)∧(((x1.getD x3.toNat default).C):Int) < 2)
      (.guard ((Sl.len (.asked x7)+Sl.len (.asked [(x1.getD x3.toNat default)]))*88≤140737488355328)
      (.leaf (.inl (x0,x1,x2,i64.wrap (x3+1),x4,x5,(x6.set ((x1.getD x3.toNat default).C) true),x7++[(x1.getD x3.toNat default)])))))
      (.leaf (.inl (x0,x1,x2,i64.wrap (x3+1),x4,x5,x6,x7))))
     .fail)
    .fail)
   (.bind (zr6 (x1.getD x3.toNat default) x4) fun v2 =>
   (.ite ((false:Bool)||(!v2.1))
    (.guard ((0:Int)≤((x1.getD x3.toNat default).C)∧(((x1.getD x3.toNat default).C):Int) < 2)
    (.guard ((Sl.len (.asked x7)+Sl.len (.asked [(x1.getD x3.toNat default)]))*88≤140737488355328)
    (.leaf (.inl (x0,x1,x2,i64.wrap (x3+1),v2.2,x5,(x6.set ((x1.getD x3.toNat default).C) true),x7++[(x1.getD x3.toNat default)])))))
    (.leaf (.inl (x0,x1,x2,i64.wrap (x3+1),v2.2,x5,x6,x7))))))))
  (.leaf (.inr (x0,x4,x5,x7))))
def zjy (x0:Int) (x1:(List Asked)) (x2 x3:Int) (x4 x5:za) (x6:(A2 Bool)) (x7:(List Asked)):=zbl (fun s:Int×(List Asked)×Int×Int×za×za×(A2 Bool)×(List Asked)=>(zhd s.1 s.2.1 s.2.2.1 s.2.2.2.1 s.2.2.2.2.1 s.2.2.2.2.2.1 s.2.2.2.2.2.2.1 s.2.2.2.2.2.2.2).run) (x0,x1,x2,x3,x4,x5,x6,x7)
def zbnq:Ann:=⟨[],[],[],zv89,[(23,[9700002])]⟩
def zbnr:=EndD.mk (LQ.v intP (LQ.kp 0 0 (LQ.kp 1 0 (LQ.k (LQ.c (.own 3)) (LQ.kp 2 0 (LQ.v zac (LQ.v intP (LQ.v intP (LQ.seq (LP.q providerL) (LQ.seq (LP.q providerL) (LQ.seq (LP.q (a2L (LP.one boolP))) (Par.q zac)))))))))))) ⟨[1,2,4,7,8,44,45,46],[.nilown 7 112 (.asked []),.pub 44,.nilsl 44 (.asked [])]⟩ [.cells 63 97,.cells 63 97,.cells 175 2,.rows 112]
def za6i:=EndD.mk (LQ.v intP (LQ.kp 0 0 (LQ.kp 1 0 (LQ.k (LQ.c (.own 2)) (LQ.seq (LP.q providerL) (LQ.seq (LP.q providerL) (Par.q zac))))))) ⟨[1,2,4,7],[.nilown 7 112 (.asked [])]⟩ [.cells 63 97,.cells 63 97,.rows 112]
def zbbw:St→Option LR:=L1 96 9 0 zbnr (.exit 0) za6i (u8 zhd)
def zs89a:=sub (fb Tryz.f84) [0,1,0,1,1,1,1,1,1]
theorem zbns:zk (zy89).env 0 zs89a zbbw :=
 zb5 (A:=zbnq) zh89 fM trivial (k:=z8 zs89a) (by kernel_rfl) rfl (by rintro ⟨x0,x1,x2,x3,x4,x5,x6,x7⟩;kernel_rfl)
def zhe (x0:Int) (x1:(List Int)) (x2:Int) (x3 x4:za): Tr ((Int×(List Int)×Int×za×za)⊕((List Int)×za×za)) :=
 (.ite (decide (x2 < 2))
  (.bind (zmm x2 x0 x3) fun v6 =>
  (.leaf (.inl (x0,x1,i64.wrap (x2+1),v6,x4))))
  (.leaf (.inr (x1,x3,x4))))
def zog (x0:Int) (x1:(List Int)) (x2:Int) (x3 x4:za):=zbl (fun s:Int×(List Int)×Int×za×za=>(zhe s.1 s.2.1 s.2.2.1 s.2.2.2.1 s.2.2.2.2).run) (x0,x1,x2,x3,x4)
def zbnt:Ann:=⟨[],[],[],zv89,[(23,[9700002])]⟩
def zbnu:=EndD.mk (LQ.v intP (LQ.kp 0 0 (LQ.kp 1 0 (LQ.v za7 (LQ.v intP (LQ.seq (LP.q providerL) (LP.q providerL))))))) ⟨[1,2,4,12,87],[.pubC 2 96,.pub 12,.nilsl 12 (.ints [])]⟩ [.cells 63 97,.cells 63 97]
def za6j:=EndD.mk (LQ.kp 0 0 (LQ.kp 1 0 (LQ.v za7 (LQ.seq (LP.q providerL) (LP.q providerL))))) ⟨[2,4,12],[.pubC 2 96,.pub 12,.nilsl 12 (.ints [])]⟩ [.cells 63 97,.cells 63 97]
def zbbx:St→Option LR:=L1 96 9 0 zbnu (.exit 2) za6j (u5 zhe)
def zs89b:=sub (fb Tryz.f84) [0,1,0,1,1,1,1,1,1,1,1,1,1,1,1]
theorem zbnv:zk (zy89).env 0 zs89b zbbx :=
 zb5 (A:=zbnt) zh89 fM trivial (k:=z8 zs89b) (by kernel_rfl) rfl (by rintro ⟨x0,x1,x2,x3,x4⟩;kernel_rfl)
def zxh (a0:za) (a1:Int): Tr (za×(List Int)×Int) :=
 (.bind (zcg a0) fun v1 =>
 (.ite (((!v1)||(decide (a1 < a0.Time)))||(decide (a1 > 1099511627776)))
  (.leaf (a0,[],2))
  (.guard ((zq0 a0.Set).isSome=true)
  (.guard ((zs7 a0.Meter ((zq0 a0.Set).getD default) a1).isSome=true)
  (.bind (zjy a1 a0.Queue ((a0.Queue.length:Nat):Int) 0 ({ a0 with Height:=i64.wrap (a0.Height+1),Time:=a1,Meter:=((zs7 a0.Meter ((zq0 a0.Set).getD default) a1).getD default) }) (default:za) (⟨false,false⟩:(A2 Bool)) []) fun v3 =>
  (.bind (zv2 v3.2.1.Stake v3.1) fun v4 =>
  (.ite (v4.2.2 != 0)
   (.leaf ({ v3.2.1 with Queue:=v3.2.2.2 },[],v4.2.2))
   (.bind (z2d v4.1) fun v5 =>
   (.bind (zog v3.1 v4.2.1 0 ({ v3.2.1 with Stake:=v4.1,Set:=v5,Queue:=v3.2.2.2 }) v3.2.2.1) fun v7 =>
   (.leaf (v7.2.1,v7.1,0)))))))))))
def zd8 (a0:za) (a1:Int):=(zxh a0 a1).run
def z4o:SpecT:=zn 0 (LQ.v (Par.ofLP providerL) (Par.q intP)) 2 [] (u2 zxh) default (LQ.v (Par.ofLP providerL) (LQ.v za7 (Par.q intP))) 3 []
theorem zadf:ze Tryz.prog 84 (z4o).spec :=
 sK (A:=⟨[([0,1,0,1,1,1,1,1,1],zbbw),([0,1,0,1,1,1,1,1,1,1,1,1,1,1,1],zbbx)],[],[],zv89,[(23,[9700002])]⟩) zh89 fM Tryz.func84 (c:=(fb Tryz.f84)) (by kernel_rfl) (Lc:=0) ⟨zbns,zbnv,trivial⟩ _ _ 9 _ _ _ _ _ _ [.pubB 4,.pub 5] (by rintro ⟨a0,a1⟩;kernel_rfl)
end
