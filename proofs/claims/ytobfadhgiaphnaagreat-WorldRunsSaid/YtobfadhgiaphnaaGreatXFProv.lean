/-
  The functions, each by its tree.
-/
import Derived.Test.YtobfadhgiaphnaaGreatXAbClear
import Derived.Test.YtobfadhgiaphnaaGreatXAbFun
import Derived.Test.YtobfadhgiaphnaaGreatXAbInsert
import Derived.Test.YtobfadhgiaphnaaGreatXAbStructs
import Derived.Test.YtobfadhgiaphnaaGreatXFBank
import Derived.Test.YtobfadhgiaphnaaGreatXFCodec
import Derived.Test.YtobfadhgiaphnaaGreatXFLine
import Derived.Test.YtobfadhgiaphnaaGreatXFRatio
import Derived.Test.YtobfadhgiaphnaaGreatXFStakeA
import Derived.Test.YtobfadhgiaphnaaGreatXFStakeB
import Derived.Test.YtobfadhgiaphnaaGreatXFacts
namespace Go.Proofs.YtobfadhgiaphnaaGreat.Ab
open Go Go.RowKit
set_option maxRecDepth 100000
set_option linter.unusedVariables false
set_option linter.unusedSimpArgs false
noncomputable section
noncomputable def zy68:EnvT:=⟨Tryz.prog,zw [(92,zaay),(93,z3n)]⟩
theorem zh68:(zy68).Ok:=zd ⟨zaie,z76,trivial⟩
def zvj  : Tr (za) :=
 (.bind (zz8) fun v1 =>
 (.bind (zt8 0 0) fun v2 =>
 (.leaf (⟨0,0,v1,[],(default:Links),v2,[]⟩:za))))
def zsz  := (zvj ).run
def z2i:SpecT:=zm 0 LQ.nil 0 [] (fun s=>zvj ) default (Par.q (Par.ofLP providerL)) 1 []
theorem zaa4:ze Tryz.prog 48 (z2i).spec :=
 sK (A:=⟨[],[],[],[[0],[0]],[]⟩) zh68 fM Tryz.func48 (c:=(fb Tryz.f48)) (by kernel_rfl) (Lc:=0) trivial _ _ 3 _ _ _ _ _ _ [.pubB 0] (by rintro _;kernel_rfl)
def zv69:List (List Nat):=[[0],[0,5,6,7],[0,5,6,7,8],[0,3,4,5,6,7],[0,5,6,7,44],[2],[0,5,6,7],[2]]
def zj7 (x0 x1:(List Power)) (x2 x3:Int): Tr (((List Power)×(List Power)×Int×Int)⊕((Bool)⊕(Unit))) :=
 (.ite (decide (x3 < x2))
  (.guard ((0:Int)≤x3∧x3 < ((Sl.len (.powers x1):Nat):Int))
  (.guard (((decide (x3 > 0))=true→(((decide (((x1.getD x3.toNat default).V) < 0))||(decide (((x1.getD x3.toNat default).V)≥6)))=false→((0:Int)≤(IntKind.i64.wrap (x3 - 1))∧(IntKind.i64.wrap (x3 - 1)) < ((Sl.len (.powers x0):Nat):Int))∧True)))
  (.ite (((((decide (((x1.getD x3.toNat default).V) < 0))||(decide (((x1.getD x3.toNat default).V)≥6)))||((decide (x3 > 0))&&(decide (((x0.getD ((IntKind.i64.wrap (x3 - 1)).toNat) default).V)≥((x1.getD x3.toNat default).V)))))||(decide (((x1.getD x3.toNat default).N) < 1)))||(decide (((x1.getD x3.toNat default).N) > 1125899906842624)))
   (.leaf (.inr (.inl false)))
   (.leaf (.inl (x0,x1,x2,IntKind.i64.wrap (x3+1)))))))
  (.leaf (.inr (.inr ()))))
def zui (x0 x1:(List Power)) (x2 x3:Int):=zbp (fun s:(List Power)×(List Power)×Int×Int=>(zj7 s.1 s.2.1 s.2.2.1 s.2.2.2).run) (x0,x1,x2,x3)
def zbho:Ann:=⟨[],[],[],zv69,[]⟩
def zbhp:=EndD.mk (LQ.v zg (LQ.v zg (LQ.v intP (Par.q intP)))) ⟨[0,5,6,7],[.pub 0,.nilsl 0 (.powers []),.pub 5,.nilsl 5 (.powers [])]⟩ []
def za2q:=EndD.mk (Par.q boolP) ⟨[2],[]⟩ []
def za2r:EndD (Unit):=⟨LQ.nil,⟨[],[]⟩,[]⟩
def za7c:St→Option LR:=L2 46 3 0 zbhp .ret za2q (.exit 0) za2r (u4 zj7)
def zs69a:=sub (fb Tryz.f110) [0,1,0,1]
theorem zbhq:zk (zyN).env 0 zs69a za7c :=
 zkf (A:=zbho) zhN fM trivial (k:=zab zs69a) (by kernel_rfl) rfl rfl (by rintro ⟨x0,x1,x2,x3⟩;kernel_rfl)
def zvk (a0:(List Power)): Tr (Bool) :=
 (.two (zui a0 a0 ((a0.length:Nat):Int) 0) (fun v1 =>
  (.leaf v1)) (fun v2 =>
  (.leaf true)))
def zew (a0:(List Power)):=(zvk a0).run
def z2j:SpecT:=zm 0 (Par.q zg) 1 [] zvk default (Par.q boolP) 1 []
theorem zaa5:ze Tryz.prog 110 (z2j).spec :=
 sK (A:=⟨[([0,1,0,1],za7c)],[],[],zv69,[]⟩) zhN fM Tryz.func110 (c:=(fb Tryz.f110)) (by kernel_rfl) (Lc:=0) ⟨zbhq,trivial⟩ _ _ 3 _ _ _ _ _ _ [] (by rintro a0;kernel_rfl)
noncomputable def zy70:EnvT:=⟨Tryz.prog,zw [(114,zpo)]⟩
theorem zh70:(zy70).Ok:=zd ⟨zrt,trivial⟩
def zoi (a0:Asked) (a1:za): Tr (Bool×za) :=
 (.guard ((((decide (a0.C < 0))||(decide (a0.C≥2)))=false→((0:Int)≤a0.C∧(a0.C:Int) < 2)∧True))
 (.guard (((((decide (a0.C < 0))||(decide (a0.C≥2)))||(!(a1.Links.On.get a0.C)))=false→((zg6 a0.P).isSome=true)∧True))
 (.leaf (((((decide (a0.C < 0))||(decide (a0.C≥2)))||(!(a1.Links.On.get a0.C)))||(((zg6 a0.P).getD default) != 0))||(a0.P.Kind==1),a1))))
def znb (a0:Asked) (a1:za):=(zoi a0 a1).run
def zwk:SpecT:=zm 1 (LQ.v (Par.ofLP z19) (LQ.kp 0 0 (LP.q providerL))) 2 [.cells 63 97] (u2 zoi) default (LQ.v boolP (LP.q providerL)) 1 [.cells 63 97]
theorem z5x:ze Tryz.prog 113 (zwk).spec :=
 sK (A:=⟨[],[],[],[[1,2],[3]],[]⟩) zh70 fM Tryz.func113 (c:=(fb Tryz.f113)) (by kernel_rfl) (Lc:=1) trivial _ _ 4 _ _ _ _ _ _ [.pubN 0] (by rintro ⟨a0,a1⟩;kernel_rfl)
def zv71:List (List Nat):=[[0,1],[0,1,7,8],[0,1,7,8,9],[0,1,5,7,8],[0,1,5,7,8,16],[4],[0,1,7,8],[4]]
noncomputable def zy71:EnvT:=⟨Tryz.prog,zw [(113,zwk)]⟩
theorem zh71:(zy71).Ok:=zd ⟨z5x,trivial⟩
def zam (x0:(List Asked)) (x1 x2:Int) (x3:za): Tr (((List Asked)×Int×Int×za)⊕((Int×za)⊕(za))) :=
 (.ite (decide (x2 < x1))
  (.guard ((0:Int)≤x2∧x2 < ((Sl.len (.asked x0):Nat):Int))
  (.bind (znb (x0.getD x2.toNat default) x3) fun v1 =>
  (.ite (v1.1)
   (.leaf (.inr (.inl (x2,v1.2))))
   (.leaf (.inl (x0,x1,IntKind.i64.wrap (x2+1),v1.2))))))
  (.leaf (.inr (.inr x3))))
def ze1 (x0:(List Asked)) (x1 x2:Int) (x3:za):=zbp (fun s:(List Asked)×Int×Int×za=>(zam s.1 s.2.1 s.2.2.1 s.2.2.2).run) (x0,x1,x2,x3)
def zbhr:Ann:=⟨[],[],[],zv71,[]⟩
def zbhs:=EndD.mk (LQ.v zal (LQ.k (LQ.c (.fn 113 [.ptr 0 0])) (LQ.v intP (LQ.v intP (LP.q providerL))))) ⟨[0,1,7,8],[.pub 0,.nilsl 0 (.asked [])]⟩ [.cells 63 97]
def za2s:=EndD.mk (LQ.v intP (LP.q providerL)) ⟨[4],[]⟩ [.cells 63 97]
def za2t:=EndD.mk (LP.q providerL) ⟨[],[]⟩ [.cells 63 97]
def za7d:St→Option LR:=L2 19 3 1 zbhs .ret za2s (.exit 0) za2t (u4 zam)
def zs71a:=sub (fb Tryz.f151) [0,1,0,1]
theorem zbht:zk (zy71).env 1 zs71a za7d :=
 zkf (A:=zbhr) zh71 fM trivial (k:=zab zs71a) (by kernel_rfl) rfl rfl (by rintro ⟨x0,x1,x2,x3⟩;kernel_rfl)
def zbs (a0:(List Asked)) (a1:za): Tr (Int×za) :=
 (.two (ze1 a0 ((a0.length:Nat):Int) 0 a1) (fun v2 =>
  (.leaf (v2.1,v2.2))) (fun v3 =>
  (.leaf (-1,v3))))
def zdd (a0:(List Asked)) (a1:za):=(zbs a0 a1).run
def zgu:SpecT:=zm 1 (LQ.v zal (LQ.k (LQ.c (.fn 113 [.ptr 0 0])) (LP.q providerL))) 2 [.cells 63 97] (u2 zbs) default (LQ.v intP (LP.q providerL)) 1 [.cells 63 97]
theorem zoj:ze Tryz.prog 151 (zgu).spec :=
 sK (A:=⟨[([0,1,0,1],za7d)],[],[],zv71,[]⟩) zh71 fM Tryz.func151 (c:=(fb Tryz.f151)) (by kernel_rfl) (Lc:=1) ⟨zbht,trivial⟩ _ _ 3 _ _ _ _ _ _ [.pubN 0] (by rintro ⟨a0,a1⟩;kernel_rfl)
noncomputable def zy72:EnvT:=⟨Tryz.prog,zw [(151,zgu)]⟩
theorem zh72:(zy72).Ok:=zd ⟨zoj,trivial⟩
def zde (a0:(List Asked)) (a1:za): Tr (Bool×za) :=
 (.bind (zdd a0 a1) fun v1 =>
 (.leaf (decide (v1.1≥0),v1.2)))
def zc9 (a0:(List Asked)) (a1:za):=(zde a0 a1).run
def zgj:SpecT:=zm 1 (LQ.v zal (LQ.k (LQ.c (.fn 113 [.ptr 0 0])) (LP.q providerL))) 2 [.cells 63 97] (u2 zde) default (LQ.v boolP (LP.q providerL)) 1 [.cells 63 97]
theorem znv:ze Tryz.prog 112 (zgj).spec :=
 sK (A:=⟨[],[],[],[[0,1],[4]],[]⟩) zh72 fM Tryz.func112 (c:=(fb Tryz.f112)) (by kernel_rfl) (Lc:=1) trivial _ _ 3 _ _ _ _ _ _ [.pubN 0] (by rintro ⟨a0,a1⟩;kernel_rfl)
def zv73:List (List Nat):=[[1],[1,36],[2],[1,38,39],[1,38,39,40],[1,4,38,39],[1,4,38,39,71],[2],[1,4,38,39,73,74,75],[1,4,38,39,73,74,75,76],[1,4,5,6,38,39,73,74,75],[1,4,38,39,73,74,75,99],[2],[1,4,38,39,73,74,75],[1,38,39],[2]]
noncomputable def zy73:EnvT:=⟨Tryz.prog,zw [(109,zue),(110,z2j),(111,zoa),(112,zgj)]⟩
theorem zh73:(zy73).Ok:=zd ⟨zxv,zaa5,zpn,znv,trivial⟩
def ziz (x0:Links) (x1:Int) (x2:(List Int)) (x3 x4:Int) (x5:za) (x6:Link): Tr ((Links×Int×(List Int)×Int×Int×za×Link)⊕((Bool)⊕(Links×Int×za))) :=
 (.ite (decide (x4 < x3))
  (.guard ((0:Int)≤x4∧x4 < ((Sl.len (.ints x2):Nat):Int))
  (.guard (((decide (x4 > 0))=true→(((decide ((x2.getD x4.toNat 0) < 0))||(decide ((x2.getD x4.toNat 0)≥6)))=false→((0:Int)≤(IntKind.i64.wrap (x4 - 1))∧(IntKind.i64.wrap (x4 - 1)) < ((Sl.len (.ints x6.Done):Nat):Int))∧True)))
  (.ite (((decide ((x2.getD x4.toNat 0) < 0))||(decide ((x2.getD x4.toNat 0)≥6)))||((decide (x4 > 0))&&(decide ((x6.Done.getD ((IntKind.i64.wrap (x4 - 1)).toNat) 0)≥(x2.getD x4.toNat 0)))))
   (.leaf (.inr (.inl false)))
   (.leaf (.inl (x0,x1,x2,x3,IntKind.i64.wrap (x4+1),x5,x6))))))
  (.leaf (.inr (.inr (x0,x1,x5)))))
def zs0 (x0:Links) (x1:Int) (x2:(List Int)) (x3 x4:Int) (x5:za) (x6:Link):=zbp (fun s:Links×Int×(List Int)×Int×Int×za×Link=>(ziz s.1 s.2.1 s.2.2.1 s.2.2.2.1 s.2.2.2.2.1 s.2.2.2.2.2.1 s.2.2.2.2.2.2).run) (x0,x1,x2,x3,x4,x5,x6)
def zbhx:Ann:=⟨[],[],[],zv73,[]⟩
def zbhy:=EndD.mk (LQ.kp 0 0 (LQ.kp 1 0 (LQ.v (Par.ofLP linksL) (LQ.v intP (LQ.v zbc (LQ.v intP (LQ.v intP (LQ.seq (LP.q providerL) (LP.q zat9))))))))) ⟨[1,4,38,39,73,74,75],[.pub 73,.nilsl 73 (.ints [])]⟩ [.cells 63 97,.cells 57 14]
def za2u:=EndD.mk (Par.q boolP) ⟨[2],[]⟩ []
def za2v:=EndD.mk (LQ.kp 0 0 (LQ.v (Par.ofLP linksL) (LQ.v intP (LP.q providerL)))) ⟨[1,38,39],[]⟩ [.cells 63 97]
def za7e:St→Option LR:=L2 107 4 0 zbhy .ret za2u (.exit 2) za2v (u7 ziz)
def zs73a:=sub (fb Tryz.f78) [0,1,1,1,0,0,1,1,0,0,1,0,1,1]
theorem zbhz:zk (zy73).env 0 zs73a za7e :=
 zkf (A:=zbhx) zh73 fM trivial (k:=zab zs73a) (by kernel_rfl) rfl rfl (by rintro ⟨x0,x1,x2,x3,x4,x5,x6⟩;kernel_rfl)
def zdz (x0:Links) (x1:Int) (x2:za): Tr ((Links×Int×za)⊕((Bool)⊕(za))) :=
 (.ite (decide (x1 < 2))
  (.guard ((0:Int)≤x1∧(x1:Int) < 2)
  (.guard ((((((x0.On.get x1)&&(x0.Gone.get x1))||(decide ((x0.Base.get x1) < 0)))||(decide ((x0.Base.get x1) > x2.Height)))=false→((zew (x0.Told.get x1)).isSome=true)∧True))
  (.guard (((((((x0.On.get x1)&&(x0.Gone.get x1))||(decide ((x0.Base.get x1) < 0)))||(decide ((x0.Base.get x1) > x2.Height)))||(!((zew (x0.Told.get x1)).getD default)))=false→((zfb (⟨x0.Said.get x1,x0.Due.get x1,x0.Got.get x1,x0.Closed.get x1⟩:zcl)).isSome=true)∧True))
  (.ite ((((((x0.On.get x1)&&(x0.Gone.get x1))||(decide ((x0.Base.get x1) < 0)))||(decide ((x0.Base.get x1) > x2.Height)))||(!((zew (x0.Told.get x1)).getD default)))||(!((zfb (⟨x0.Said.get x1,x0.Due.get x1,x0.Got.get x1,x0.Closed.get x1⟩:zcl)).getD default)))
   (.leaf (.inr (.inl false)))
   (.two (zs0 x0 x1 (x0.Done.get x1) (((x0.Done.get x1).length:Nat):Int) 0 x2 (⟨x0.On.get x1,x0.Gone.get x1,x0.Base.get x1,x0.Told.get x1,x0.Fresh.get x1,x0.Done.get x1,(⟨x0.Said.get x1,x0.Due.get x1,x0.Got.get x1,x0.Closed.get x1⟩:zcl),(⟨x0.SHeight.get x1,x0.STime.get x1,x0.SSaid.get x1,x0.SGot.get x1⟩:Head)⟩:Link)) (fun v2 =>
    (.leaf (.inr (.inl v2)))) (fun v3 =>
    (.leaf (.inl (v3.1,IntKind.i64.wrap (v3.2.1+1),v3.2.2)))))))))
  (.leaf (.inr (.inr x2))))
def zlv (x0:Links) (x1:Int) (x2:za):=zbp (fun s:Links×Int×za=>(zdz s.1 s.2.1 s.2.2).run) (x0,x1,x2)
def zbh0:Ann:=⟨[([0,1,1,1,0,0,1,1,0,0,1,0,1,1],za7e)],[],[],zv73,[]⟩
def zbh1:=EndD.mk (LQ.kp 0 0 (LQ.v (Par.ofLP linksL) (LQ.v intP (LP.q providerL)))) ⟨[1,38,39],[]⟩ [.cells 63 97]
def za2w:=EndD.mk (Par.q boolP) ⟨[2],[]⟩ []
def za2x:=EndD.mk (LQ.kp 0 0 (LP.q providerL)) ⟨[1],[]⟩ [.cells 63 97]
def za7f:St→Option LR:=L2 107 4 0 zbh1 .ret za2w (.exit 0) za2x (u3 zdz)
def zs73b:=sub (fb Tryz.f78) [0,1,0,1,1]
theorem zbh2:zk (zy73).env 0 zs73b za7f :=
 zkf (A:=zbh0) zh73 fM ⟨zbhz,trivial⟩ (k:=zab zs73b) (by kernel_rfl) rfl rfl (by rintro ⟨x0,x1,x2⟩;kernel_rfl)
def zs1 (a0:za): Tr (Bool) :=
 (.bind (zm3 a0.Stake) fun v1 =>
 (.guard (((((((!v1)||(decide (a0.Height < 0)))||(decide (a0.Height≥1099511627776)))||(decide (a0.Time < 0)))||(decide (a0.Time > 1099511627776)))=false→((zew a0.Set).isSome=true)∧True))
 (.ite ((((((!v1)||(decide (a0.Height < 0)))||(decide (a0.Height≥1099511627776)))||(decide (a0.Time < 0)))||(decide (a0.Time > 1099511627776)))||(!((zew a0.Set).getD default)))
  (.leaf false)
  (.two (zlv a0.Links 0 a0) (fun v4 =>
   (.leaf v4)) (fun v5 =>
   (.bind (zc9 v5.Queue v5) fun v6 =>
   (.leaf (!v6.1))))))))
def zb5 (a0:za):=(zs1 a0).run
def zdo:SpecT:=zm 0 (Par.q (Par.ofLP providerL)) 1 [] zs1 default (Par.q boolP) 1 []
theorem zd4:ze Tryz.prog 78 (zdo).spec :=
 sK (A:=⟨[([0,1,0,1,1],za7f)],[],[],zv73,[]⟩) zh73 fM Tryz.func78 (c:=(fb Tryz.f78)) (by kernel_rfl) (Lc:=0) ⟨zbh2,trivial⟩ _ _ 4 _ _ _ _ _ _ [] (by rintro a0;kernel_rfl)
noncomputable def zy74:EnvT:=⟨Tryz.prog,zw [(78,zdo),(79,zyq)]⟩
theorem zh74:(zy74).Ok:=zd ⟨zd4,z7a,trivial⟩
def zlw (a0:za) (a1 a2 a3:Int): Tr (za×Int) :=
 (.bind (zb5 a0) fun v1 =>
 (.ite (!v1)
  (.leaf (a0,2))
  (.bind (zob a0.Stake a1 a2 a3) fun v2 =>
  (.ite (v2.2 != 0)
   (.leaf (a0,v2.2))
   (.leaf ({ a0 with Stake:=v2.1 },0))))))
def zkh (a0:za) (a1 a2 a3:Int):=(zlw a0 a1 a2 a3).run
def zs2:SpecT:=zm 0 (LQ.v (Par.ofLP providerL) (LQ.v intP (LQ.v intP (Par.q intP)))) 4 [] (u4 zlw) default (LQ.v (Par.ofLP providerL) (Par.q intP)) 2 []
theorem z1w:ze Tryz.prog 33 (zs2).spec :=
 sK (A:=⟨[],[],[],[[1,2,3,4,8],[1,2,3,4,8,14],[8,9],[4,8,10,11],[4,8,10,11,26],[8,9],[4,8],[8,9]],[]⟩) zh74 fM Tryz.func33 (c:=(fb Tryz.f33)) (by kernel_rfl) (Lc:=0) trivial _ _ 5 _ _ _ _ _ _ [.pubB 8] (by rintro ⟨a0,a1,a2,a3⟩;kernel_rfl)
def zv75:List (List Nat):=[[1,2,3,4,5,10],[1,2,3,4,5,10,27],[10,11],[1,2,3,5,10,12],[1,2,3,5,10,12,35],[1,2,3,5,10,12,35,36],[1,2,3,5,10,12,13,35],[1,2,3,5,10,12,13,35,42],[1,2,3,5,10,12,35],[1,2,3,5,10,12,35],[5,10,14,15],[5,10,14,15,61],[10,11],[5,10],[5,10,66],[5,10,66,67],[5,10,16,66],[5,10,66],[5,10,66],[10,11]]
noncomputable def zy75:EnvT:=⟨Tryz.prog,zw [(78,zdo),(80,zuf)]⟩
theorem zh75:(zy75).Ok:=zd ⟨zd4,z3s,trivial⟩
def zbd (x0 x1 x2 x3:Int) (x4 x5:za) (x6:Wait): Tr ((Int×Int×Int×Int×za×za×Wait)⊕(Int×Int×Int×za×za×Wait)) :=
 (.ite (decide (x3 < 2))
  (.guard ((0:Int)≤x3∧(x3:Int) < 2)
  (.ite (x4.Links.On.get x3)
   (.guard ((0:Int)≤x3∧(x3:Int) < 2)
   (.leaf (.inl (x0,x1,x2,IntKind.i64.wrap (x3+1),x4,x5,{ (x6:Wait) with h0:=if x3=0 then IntKind.i64.wrap (x4.Height+1) else x6.h0,h1:=if x3=1 then IntKind.i64.wrap (x4.Height+1) else x6.h1 }))))
   (.leaf (.inl (x0,x1,x2,IntKind.i64.wrap (x3+1),x4,x5,x6)))))
  (.leaf (.inr (x0,x1,x2,x4,x5,x6))))
def zfv (x0 x1 x2 x3:Int) (x4 x5:za) (x6:Wait):=zbp (fun s:Int×Int×Int×Int×za×za×Wait=>(zbd s.1 s.2.1 s.2.2.1 s.2.2.2.1 s.2.2.2.2.1 s.2.2.2.2.2.1 s.2.2.2.2.2.2).run) (x0,x1,x2,x3,x4,x5,x6)
def zbh6:Ann:=⟨[],[],[],zv75,[]⟩
def zbh7:=EndD.mk (LQ.v intP (LQ.v intP (LQ.v intP (LQ.kp 0 0 (LQ.kp 1 0 (LQ.kp 2 0 (LQ.v intP (LQ.seq (LP.q providerL) (LQ.seq (LP.q providerL) (LP.q zaoa)))))))))) ⟨[1,2,3,5,10,12,35],[]⟩ [.cells 63 97,.cells 63 97,.cells 127 8]
def za2y:=EndD.mk (LQ.v intP (LQ.v intP (LQ.v intP (LQ.kp 0 0 (LQ.kp 1 0 (LQ.kp 2 0 (LQ.seq (LP.q providerL) (LQ.seq (LP.q providerL) (LP.q zaoa))))))))) ⟨[1,2,3,5,10,12],[]⟩ [.cells 63 97,.cells 63 97,.cells 127 8]
def za7g:St→Option LR:=L1 87 6 0 zbh7 (.exit 0) za2y (u7 zbd)
def zs75a:=sub (fb Tryz.f34) [0,1,0,1,1,1]
theorem zbh8:zk (zy75).env 0 zs75a za7g :=
 zb2 (A:=zbh6) zh75 fM trivial (k:=zab zs75a) (by kernel_rfl) rfl (by rintro ⟨x0,x1,x2,x3,x4,x5,x6⟩;kernel_rfl)
def zbe (x0:Int) (x1 x2:za): Tr ((Int×za×za)⊕(za×za)) :=
 (.ite (decide (x0 < 2))
  (.guard ((0:Int)≤x0∧(x0:Int) < 2)
  (.guard (((x1.Links.Fresh.get x0)=false→((0:Int)≤x0∧(x0:Int) < 2)∧True))
  (.guard ((0:Int)≤x0∧(x0:Int) < 2)
  (.leaf (.inl (IntKind.i64.wrap (x0+1),{ x1 with Links:={ x1.Links with Fresh:=(x1.Links.Fresh.set x0 ((x1.Links.Fresh.get x0)||(x1.Links.On.get x0))) } },x2))))))
  (.leaf (.inr (x1,x2))))
def zk3 (x0:Int) (x1 x2:za):=zbp (fun s:Int×za×za=>(zbe s.1 s.2.1 s.2.2).run) (x0,x1,x2)
def zbh9:Ann:=⟨[],[],[],zv75,[]⟩
def zbia:=EndD.mk (LQ.kp 0 0 (LQ.kp 1 0 (LQ.v intP (LQ.seq (LP.q providerL) (LP.q providerL))))) ⟨[5,10,66],[]⟩ [.cells 63 97,.cells 63 97]
def za2z:=EndD.mk (LQ.kp 0 0 (LQ.kp 1 0 (LQ.seq (LP.q providerL) (LP.q providerL)))) ⟨[5,10],[]⟩ [.cells 63 97,.cells 63 97]
def za7h:St→Option LR:=L1 87 6 0 zbia (.exit 2) za2z (u3 zbe)
def zs75b:=sub (fb Tryz.f34) [0,1,0,1,1,1,1,1,1,1]
theorem zbib:zk (zy75).env 0 zs75b za7h :=
 zb2 (A:=zbh9) zh75 fM trivial (k:=zab zs75b) (by kernel_rfl) rfl (by rintro ⟨x0,x1,x2⟩;kernel_rfl)
def zjd (a0:za) (a1 a2 a3 a4:Int): Tr (za×Int) :=
 (.bind (zb5 a0) fun v1 =>
 (.ite (((!v1)||(decide (a4 < 0)))||(decide (a4 > 1099511627776)))
  (.leaf (a0,2))
  (.bind (zfv a1 a2 a3 0 a0 (default:za) (⟨0,0,0,0,IntKind.i64.wrap (a0.Height+1),IntKind.i64.wrap (a4+20),0,0⟩:Wait)) fun v2 =>
  (.bind (zls v2.2.2.2.1.Stake v2.1 v2.2.1 v2.2.2.1 v2.2.2.2.2.2) fun v3 =>
  (.ite (v3.2 != 0)
   (.leaf (v2.2.2.2.1,v3.2))
   (.bind (zk3 0 ({ v2.2.2.2.1 with Stake:=v3.1 }) v2.2.2.2.2.1) fun v4 =>
   (.leaf (v4.1,0))))))))
def zbw (a0:za) (a1 a2 a3 a4:Int):=(zjd a0 a1 a2 a3 a4).run
def zpr:SpecT:=zm 0 (LQ.v (Par.ofLP providerL) (LQ.v intP (LQ.v intP (LQ.v intP (Par.q intP))))) 5 [] (u5 zjd) default (LQ.v (Par.ofLP providerL) (Par.q intP)) 2 []
theorem zy0:ze Tryz.prog 34 (zpr).spec :=
 sK (A:=⟨[([0,1,0,1,1,1],za7g),([0,1,0,1,1,1,1,1,1,1],za7h)],[],[],zv75,[]⟩) zh75 fM Tryz.func34 (c:=(fb Tryz.f34)) (by kernel_rfl) (Lc:=0) ⟨zbh8,zbib,trivial⟩ _ _ 6 _ _ _ _ _ _ [.pubB 10] (by rintro ⟨a0,a1,a2,a3,a4⟩;kernel_rfl)
def zv76:List (List Nat):=[[1,2,4],[1,2,4,8],[4,5],[1,2,4,13],[4,5],[1,2,4,21],[4,5],[1,2,4,28],[4,5],[1,2,4,35],[4,5],[1,2,4],[1,2,4],[1,2,4,64,65],[1,2,4,64,65,66],[1,2,4,6,64,65],[1,2,4,7,64,65],[1,2,4,7,64,65,79],[1,2,4,64,65],[1,2,4,64,65],[1,2,4,64,65],[4,5]]
noncomputable def zy76:EnvT:=⟨Tryz.prog,zw [(78,zdo),(127,ze5),(118,zcm)]⟩
theorem zh76:(zy76).Ok:=zd ⟨zd4,zi6,zdw,trivial⟩
def zex (x0 x1 x2:Int) (x3 x4:za): Tr ((Int×Int×Int×za×za)⊕(za×za)) :=
 (.ite (decide (x2 < x1))
  (.guard ((0:Int)≤x2∧x2 < ((Sl.len (.waits x3.Stake.Waits):Nat):Int))
  (.ite (decide (((x3.Stake.Waits.getD x2.toNat default).Height) > x3.Height))
   (.guard ((0:Int)≤x0∧(x0:Int) < 2)
   (.guard ((0:Int)≤x0∧(x0:Int) < 2)
   (.leaf (.inl (x0,x1,IntKind.i64.wrap (x2+1),{ x3 with Stake:={ x3.Stake with Waits:=x3.Stake.Waits.set x2.toNat ({ ((x3.Stake.Waits.getD x2.toNat default):Wait) with h0:=if x0=0 then (x3.Stake.Waits.getD x2.toNat default).Height else (x3.Stake.Waits.getD x2.toNat default).h0,h1:=if x0=1 then (x3.Stake.Waits.getD x2.toNat default).Height else (x3.Stake.Waits.getD x2.toNat default).h1 }) },Links:={ x3.Links with Fresh:=(x3.Links.Fresh.set x0 true) } },x4)))))
   (.leaf (.inl (x0,x1,IntKind.i64.wrap (x2+1),x3,x4)))))
  (.leaf (.inr (x3,x4))))
def zki (x0 x1 x2:Int) (x3 x4:za):=zbp (fun s:Int×Int×Int×za×za=>(zex s.1 s.2.1 s.2.2.1 s.2.2.2.1 s.2.2.2.2).run) (x0,x1,x2,x3,x4)
def zbic:Ann:=⟨[],[],[],zv76,[]⟩
def zbid:=EndD.mk (LQ.map (LQ.v intP (LQ.kp 0 0 (LQ.kp 1 0 (LQ.v intP (LQ.v intP (LQ.v intP (LQ.v intP (LQ.seq (LP.q bankL) (LQ.seq (LP.q validatorsL) (LQ.seq (LP.q (a4L (a6L (LP.one intP)))) (LQ.k (LQ.c (.own 2)) (LQ.v intP (LQ.v zg (LQ.seq (LP.q linksL) (LQ.seq (LP.q meterL) (LQ.v zal (LQ.seq (LP.q providerL) (Par.q zca)))))))))))))))))) (fun x=>(x.1,x.2.1,x.2.2.1,(⟨x.2.2.2.1,(d4 x).1,(⟨(d4 x).2.1,(d4 x).2.2.1,(d4 x).2.2.2.1,(d12 x).2.2,(d8 x).1⟩:Stake),(d8 x).2.1,(d8 x).2.2.1,(d8 x).2.2.2.1,(d12 x).1⟩:za),(d12 x).2.1)) (fun y=>(y.1,y.2.1,y.2.2.1,y.2.2.2.1.Height,y.2.2.2.1.Time,y.2.2.2.1.Stake.Bank,y.2.2.2.1.Stake.Validators,y.2.2.2.1.Stake.Shares,y.2.2.2.1.Stake.Next,y.2.2.2.1.Set,y.2.2.2.1.Links,y.2.2.2.1.Meter,y.2.2.2.1.Queue,(d4 y),y.2.2.2.1.Stake.Waits)) (fun _=>rfl)) ⟨[1,2,4,64,65],[.nilcell 2 63 127 (.waits [])]⟩ [.cells 63 97,.cells 63 97,.rows 127]
def za20:=EndD.mk (LQ.map (LQ.kp 0 0 (LQ.kp 1 0 (LQ.v intP (LQ.v intP (LQ.seq (LP.q bankL) (LQ.seq (LP.q validatorsL) (LQ.seq (LP.q (a4L (a6L (LP.one intP)))) (LQ.k (LQ.c (.own 2)) (LQ.v intP (LQ.v zg (LQ.seq (LP.q linksL) (LQ.seq (LP.q meterL) (LQ.v zal (LQ.seq (LP.q providerL) (Par.q zca))))))))))))))) (fun x=>((⟨x.1,x.2.1,(⟨x.2.2.1,x.2.2.2.1,(d4 x).1,(d8 x).2.2.2,(d4 x).2.1⟩:Stake),(d4 x).2.2.1,(d4 x).2.2.2.1,(d8 x).1,(d8 x).2.1⟩:za),(d8 x).2.2.1)) (fun y=>(y.1.Height,y.1.Time,y.1.Stake.Bank,y.1.Stake.Validators,y.1.Stake.Shares,y.1.Stake.Next,y.1.Set,y.1.Links,y.1.Meter,y.1.Queue,y.2,y.1.Stake.Waits)) (fun _=>rfl)) ⟨[2,4],[.nilcell 2 63 127 (.waits [])]⟩ [.cells 63 97,.cells 63 97,.rows 127]
def za7i:St→Option LR:=L1 95 5 0 zbid (.exit 1) za20 (u5 zex)
def zs76a:=sub (fb Tryz.f85) [0,1,0,1,1,1,1]
theorem zbie:zk (zy76).env 0 zs76a za7i :=
 zb2 (A:=zbic) zh76 fM trivial (k:=zab zs76a) (by kernel_rfl) rfl (by rintro ⟨x0,x1,x2,x3,x4⟩;kernel_rfl)
def zqr (a0:za) (a1:Int): Tr (za×Int) :=
 (.bind (zb5 a0) fun v1 =>
 (.ite (!v1)
  (.leaf (a0,2))
  (.ite ((decide (a1 < 0))||(decide (a1≥2)))
   (.leaf (a0,4))
   (.guard ((0:Int)≤a1∧(a1:Int) < 2)
   (.ite (a0.Links.Gone.get a1)
    (.leaf (a0,11))
    (.guard ((0:Int)≤a1∧(a1:Int) < 2)
    (.ite (a0.Links.On.get a1)
     (.leaf (a0,5))
     (.ite ((decide (a0.Height < 1))||(((a0.Set.length:Nat):Int)==0))
      (.leaf (a0,13))
      (.guard ((zav a0.Set).isSome=true)
      (.guard ((0:Int)≤a1∧(a1:Int) < 2)
      (.bind (zy a0.Stake.Waits) fun v2 =>
      (.bind (zki a1 ((v2.length:Nat):Int) 0 ({ a0 with Stake:={ a0.Stake with Waits:=v2 },Links:=(⟨(a0.Links.On.set a1 true),(a0.Links.Gone.set a1 false),(a0.Links.Base.set a1 a0.Height),(a0.Links.Told.set a1 ((zav a0.Set).getD default)),(a0.Links.Fresh.set a1 false),(a0.Links.Done.set a1 []),(a0.Links.Said.set a1 []),(a0.Links.Due.set a1 []),(a0.Links.Got.set a1 0),(a0.Links.Closed.set a1 false),(a0.Links.SHeight.set a1 0),(a0.Links.STime.set a1 0),(a0.Links.SSaid.set a1 0),(a0.Links.SGot.set a1 0)⟩:Links) }) (default:za)) fun v3 =>
      (.leaf (v3.1,0))))))))))))))
def zax (a0:za) (a1:Int):=(zqr a0 a1).run
def zyu:SpecT:=zm 0 (LQ.v (Par.ofLP providerL) (Par.q intP)) 2 [] (u2 zqr) default (LQ.v (Par.ofLP providerL) (Par.q intP)) 2 []
theorem z7c:ze Tryz.prog 85 (zyu).spec :=
 sK (A:=⟨[([0,1,0,1,1,1,1],za7i)],[],[],zv76,[]⟩) zh76 fM Tryz.func85 (c:=(fb Tryz.f85)) (by kernel_rfl) (Lc:=0) ⟨zbie,trivial⟩ _ _ 5 _ _ _ _ _ _ [.pubB 4] (by rintro ⟨a0,a1⟩;kernel_rfl)
def zlx (a0:Asked) (a1:Int): Tr (Bool×Int) :=
 (.leaf (a0.C==a1,a1))
def zf2 (a0:Asked) (a1:Int):=(zlx a0 a1).run
def zly:SpecT:=zm 1 (LQ.v (Par.ofLP z19) (LQ.kp 0 0 (Par.q intP))) 2 [.cells 3 1] (u2 zlx) default (LQ.v boolP (Par.q intP)) 1 [.cells 3 1]
theorem zq8:ze Tryz.prog 182 (zly).spec :=
 sK (A:=⟨[],[],[],[[1,2],[3]],[]⟩) zhN fM Tryz.func182 (c:=(fb Tryz.f182)) (by kernel_rfl) (Lc:=1) trivial _ _ 4 _ _ _ _ _ _ [] (by rintro ⟨a0,a1⟩;kernel_rfl)
def zv78:List (List Nat):=[[0,1],[0,1,7,8],[0,1,7,8,9],[0,1,5,7,8],[0,1,5,7,8,16],[4],[0,1,7,8],[4]]
noncomputable def zy78:EnvT:=⟨Tryz.prog,zw [(182,zly)]⟩
theorem zh78:(zy78).Ok:=zd ⟨zq8,trivial⟩
def zan (x0 x1 x2:Int) (x3:(List Asked)): Tr ((Int×Int×Int×(List Asked))⊕((Int×Int×(List Asked))⊕(Int×(List Asked)))) :=
 (.ite (decide (x1 < x0))
  (.guard ((0:Int)≤x1∧x1 < ((Sl.len (.asked x3):Nat):Int))
  (.bind (zf2 (x3.getD x1.toNat default) x2) fun v1 =>
  (.ite (v1.1)
   (.leaf (.inr (.inl (x1,v1.2,x3))))
   (.leaf (.inl (x0,IntKind.i64.wrap (x1+1),v1.2,x3))))))
  (.leaf (.inr (.inr (x2,x3)))))
def zck (x0 x1 x2:Int) (x3:(List Asked)):=zbp (fun s:Int×Int×Int×(List Asked)=>(zan s.1 s.2.1 s.2.2.1 s.2.2.2).run) (x0,x1,x2,x3)
def zbif:Ann:=⟨[],[],[],zv78,[]⟩
def zbig:=EndD.mk (LQ.k (LQ.c (.own 1)) (LQ.k (LQ.c (.fn 182 [.ptr 0 0])) (LQ.v intP (LQ.v intP (LQ.v intP (Par.q zal)))))) ⟨[0,1,7,8],[.nilown 0 112 (.asked [])]⟩ [.cells 3 1,.rows 112]
def za21:=EndD.mk (LQ.v intP (LQ.v intP (Par.q zal))) ⟨[4],[]⟩ [.cells 3 1,.rows 112]
def za22:=EndD.mk (LQ.v intP (Par.q zal)) ⟨[],[]⟩ [.cells 3 1,.rows 112]
def za7j:St→Option LR:=L2 19 4 2 zbig .ret za21 (.exit 0) za22 (u4 zan)
def zs78a:=sub (fb Tryz.f151) [0,1,0,1]
theorem zbih:zk (zy78).env 2 zs78a za7j :=
 zkf (A:=zbif) zh78 fM trivial (k:=zab zs78a) (by kernel_rfl) rfl rfl (by rintro ⟨x0,x1,x2,x3⟩;kernel_rfl)
def zdp (a0:Int) (a1:(List Asked)): Tr (Int×Int×(List Asked)) :=
 (.two (zck ((a1.length:Nat):Int) 0 a0 a1) (fun v2 =>
  (.leaf (v2.1,v2.2.1,v2.2.2))) (fun v3 =>
  (.leaf (-1,v3.1,v3.2))))
def zbk (a0:Int) (a1:(List Asked)):=(zdp a0 a1).run
def zgv:SpecT:=zm 2 (LQ.k (LQ.c (.own 1)) (LQ.k (LQ.c (.fn 182 [.ptr 0 0])) (LQ.v intP (Par.q zal)))) 2 [.cells 3 1,.rows 112] (u2 zdp) default (LQ.v intP (LQ.v intP (Par.q zal))) 1 [.cells 3 1,.rows 112]
theorem zok:ze Tryz.prog 151 (zgv).spec :=
 sK (A:=⟨[([0,1,0,1],za7j)],[],[],zv78,[]⟩) zh78 fM Tryz.func151 (c:=(fb Tryz.f151)) (by kernel_rfl) (Lc:=2) ⟨zbih,trivial⟩ _ _ 4 _ _ _ _ _ _ [] (by rintro ⟨a0,a1⟩;kernel_rfl)
def zv79:List (List Nat):=[[0,1],[0,1,5],[0,1,5,12],[4],[0,1,5,6],[0,1,5,6,19],[0,1,5,6],[0,1,5,6,7],[0,1,5,6,7,29],[0,1,5,6],[0,1,5,6],[0,5],[4]]
noncomputable def zy79:EnvT:=⟨Tryz.prog,zw [(151,zgv),(182,zly)]⟩
theorem zh79:(zy79).Ok:=zd ⟨zok,zq8,trivial⟩
def za7k:St→Option LR:=clearL 0 5 36 37 38
def zs79A:=sub (fb Tryz.f181) [0,1,1,1,1]
theorem zbij:zk (zy79).env 1 zs79A za7k :=
 zato (T:=61) (E:=112) (z:=(zr Tryz.prog (zeroValue 112)).getD undef) (by kernel_rfl) (by kernel_rfl) (by kernel_rfl) (by kernel_rfl) (by decide) (by decide) (by kernel_rfl) (by kernel_rfl) (by kernel_rfl) (by kernel_rfl)
def zas (x0 x1 x2:Int) (x3:(List Asked)): Tr ((Int×Int×Int×(List Asked))⊕(Int×Int×(List Asked))) :=
 (.ite (decide (x1 < ((x3.length:Nat):Int)))
  (.guard ((0:Int)≤x1∧x1 < ((Sl.len (.asked x3):Nat):Int))
  (.bind (zf2 (x3.getD x1.toNat default) x2) fun v2 =>
  (.ite (!v2.1)
   (.guard ((0:Int)≤x0∧x0 < ((Sl.len (.asked x3):Nat):Int))
   (.leaf (.inl (IntKind.i64.wrap (x0+1),IntKind.i64.wrap (x1+1),v2.2,x3.set x0.toNat (x3.getD x1.toNat default)))))
   (.leaf (.inl (x0,IntKind.i64.wrap (x1+1),v2.2,x3))))))
  (.leaf (.inr (x0,x2,x3))))
def zcs (x0 x1 x2:Int) (x3:(List Asked)):=zbp (fun s:Int×Int×Int×(List Asked)=>(zas s.1 s.2.1 s.2.2.1 s.2.2.2).run) (x0,x1,x2,x3)
def zbik:Ann:=⟨[],[],[],zv79,[]⟩
def zbil:=EndD.mk (LQ.k (LQ.c (.own 1)) (LQ.k (LQ.c (.fn 182 [.ptr 0 0])) (LQ.v intP (LQ.v intP (LQ.v intP (Par.q zal)))))) ⟨[0,1,5,6],[.nilown 0 112 (.asked [])]⟩ [.cells 3 1,.rows 112]
def za23:=EndD.mk (LQ.k (LQ.c (.own 1)) (LQ.v intP (LQ.v intP (Par.q zal)))) ⟨[0,5],[.nilown 0 112 (.asked [])]⟩ [.cells 3 1,.rows 112]
def za7l:St→Option LR:=L1 42 5 1 zbil (.exit 0) za23 (u4 zas)
def zs79a:=sub (fb Tryz.f181) [0,1,0,1,1,1]
theorem zbim:zk (zy79).env 1 zs79a za7l :=
 zb2 (A:=zbik) zh79 fM trivial (k:=zab zs79a) (by kernel_rfl) rfl (by rintro ⟨x0,x1,x2,x3⟩;kernel_rfl)
def zd5 (a0:Int) (a1:(List Asked)): Tr (Int×(List Asked)) :=
 (.bind (zbk a0 a1) fun v1 =>
 (.ite (v1.1==(-1))
  (.leaf (v1.2.1,v1.2.2))
  (.bind (zcs v1.1 (IntKind.i64.wrap (v1.1+1)) v1.2.1 v1.2.2) fun v3 =>
  (.bind (zahm v3.2.2 v3.1) fun v4 =>
  (.guard ((0:Int)≤v3.1∧v3.1≤((Sl.len (.asked v4):Nat):Int))
  (.leaf (v3.2.1,((v4.drop 0).take (v3.1.toNat - 0)))))))))
def zdq (a0:Int) (a1:(List Asked)):=(zd5 a0 a1).run
def zhu:SpecT:=zm 1 (LQ.k (LQ.c (.own 1)) (LQ.k (LQ.c (.fn 182 [.ptr 0 0])) (LQ.v intP (Par.q zal)))) 2 [.cells 3 1,.rows 112] (u2 zd5) default (LQ.k (LQ.c (.own 1)) (LQ.v intP (Par.q zal))) 1 [.cells 3 1,.rows 112]
theorem zps:ze Tryz.prog 181 (zhu).spec :=
 sK (A:=⟨[([0,1,0,1,1,1],za7l),([0,1,1,1,1],za7k)],[],[],zv79,[]⟩) zh79 fM Tryz.func181 (c:=(fb Tryz.f181)) (by kernel_rfl) (Lc:=1) ⟨zbim,zbij,trivial⟩ _ _ 5 _ _ _ _ _ _ [.nilown 4 112 (.asked [])] (by rintro ⟨a0,a1⟩;kernel_rfl)
noncomputable def zy80:EnvT:=⟨Tryz.prog,zw [(78,zdo),(161,zsp),(179,zf7),(181,zhu)]⟩
theorem zh80:(zy80).Ok:=zd ⟨zd4,zyr,zkx,zps,trivial⟩
def zol (a0:za) (a1:Int): Tr (za) :=
 (.bind (zb5 a0) fun v1 =>
 (.guard (((((!v1)||(decide (a1 < 0)))||(decide (a1≥2)))=false→((0:Int)≤a1∧(a1:Int) < 2)∧True))
 (.ite ((((!v1)||(decide (a1 < 0)))||(decide (a1≥2)))||(!(a0.Links.On.get a1)))
  (.leaf a0)
  (.guard ((0:Int)≤a1∧(a1:Int) < 2)
  (.guard ((0:Int)≤a1∧(a1:Int) < 2)
  (.guard ((0:Int)≤a1∧(a1:Int) < 2)
  (.guard ((0:Int)≤a1∧(a1:Int) < 2)
  (.guard ((0:Int)≤a1∧(a1:Int) < 2)
  (.bind (zhp a0.Stake a1 1099511627776) fun v2 =>
  (.bind (za5 a0.Queue) fun v3 =>
  (.bind (zdq a1 v3) fun v4 =>
  (.leaf ({ a0 with Stake:=v2,Links:={ a0.Links with On:=(a0.Links.On.set a1 false),Gone:=(a0.Links.Gone.set a1 true),Fresh:=(a0.Links.Fresh.set a1 false),Done:=(a0.Links.Done.set a1 []),Closed:=(a0.Links.Closed.set a1 true) },Queue:=v4.2 })))))))))))))
def zd0 (a0:za) (a1:Int):=(zol a0 a1).run
def zwl:SpecT:=zm 0 (LQ.v (Par.ofLP providerL) (Par.q intP)) 2 [] (u2 zol) default (Par.q (Par.ofLP providerL)) 1 []
theorem z5y:ze Tryz.prog 137 (zwl).spec :=
 sK (A:=⟨[],[],[],[[2,3,4],[2,3,4,23],[4],[2,3,4],[2,3,4],[2,3,4],[2,4],[4]],[]⟩) zh80 fM Tryz.func137 (c:=(fb Tryz.f137)) (by kernel_rfl) (Lc:=0) trivial _ _ 7 _ _ _ _ _ _ [.pubB 4] (by rintro ⟨a0,a1⟩;kernel_rfl)
noncomputable def zy81:EnvT:=⟨Tryz.prog,zw [(178,zvd),(78,zdo),(179,zf7)]⟩
theorem zh81:(zy81).Ok:=zd ⟨zz7,zd4,zkx,trivial⟩
def zs3 (a0:za) (a1:Int) (a2:ByteArray): Tr (za×Int) :=
 (.bind (zgd a2) fun v1 =>
 (.bind (zb5 a0) fun v2 =>
 (.ite (!v2)
  (.leaf (a0,2))
  (.guard ((((decide (a1 < 0))||(decide (a1≥2)))=false→((0:Int)≤a1∧(a1:Int) < 2)∧True))
  (.ite (((decide (a1 < 0))||(decide (a1≥2)))||(!(a0.Links.On.get a1)))
   (.leaf (a0,4))
   (.ite (v1.2 != 0)
    (.leaf (a0,v1.2))
    (.ite (v1.1.Kind==1)
     (.leaf (a0,3))
     (.guard ((za5 a0.Queue).isSome=true)
     (.guard ((Sl.len (.asked ((za5 a0.Queue).getD default))+Sl.len (.asked [(⟨a1,v1.1⟩:Asked)]))*88≤140737488355328)
     (.leaf ({ a0 with Queue:=((za5 a0.Queue).getD default)++[(⟨a1,v1.1⟩:Asked)] },0)))))))))))
def zbi (a0:za) (a1:Int) (a2:ByteArray):=(zs3 a0 a1 a2).run
def z0j:SpecT:=zm 0 (LQ.v (Par.ofLP providerL) (LQ.v intP (Par.q z43))) 3 [] (u3 zs3) default (LQ.v (Par.ofLP providerL) (Par.q intP)) 2 []
theorem z8x:ze Tryz.prog 134 (z0j).spec :=
 sK (A:=⟨[],[],[],[[1,2,3,6],[1,3,6,8,9],[1,3,6,8,9,15],[6,7],[1,3,6,8,9,20],[6,7],[1,3,6,8,9,36],[6,7],[1,3,6,8,41],[6,7],[3,6],[6,7]],[]⟩) zh81 fM Tryz.func134 (c:=(fb Tryz.f134)) (by kernel_rfl) (Lc:=0) trivial _ _ 8 _ _ _ _ _ _ [.pubB 6] (by rintro ⟨a0,a1,a2⟩;kernel_rfl)
noncomputable def zy82:EnvT:=⟨Tryz.prog,zw [(78,zdo),(82,zxy),(83,z0c)]⟩
theorem zh82:(zy82).Ok:=zd ⟨zd4,z2f,z5r,trivial⟩
def zlz (a0:za) (a1 a2:Int): Tr (za×Int) :=
 (.bind (zb5 a0) fun v1 =>
 (.ite (!v1)
  (.leaf (a0,2))
  (.ite ((decide (a1 < 0))||(decide (a1≥6)))
   (.leaf (a0,4))
   (.ite ((decide (a2 < 1))||(decide (a2 > a0.Height)))
    (.leaf (a0,2))
    (.guard ((0:Int)≤a1∧(a1:Int) < 6)
    (.ite (a0.Stake.Validators.Dead.get a1)
     (.leaf (a0,15))
     (.bind (zia a0.Stake a1 a2 50) fun v2 =>
     (.ite (v2.2.2 != 0)
      (.leaf (a0,v2.2.2))
      (.bind (zm6 v2.1 a1) fun v3 =>
      (.ite (v3.2 != 0)
       (.leaf (a0,v3.2))
       (.leaf ({ a0 with Stake:=v3.1 },0))))))))))))
def zkj (a0:za) (a1 a2:Int):=(zlz a0 a1 a2).run
def zs4:SpecT:=zm 0 (LQ.v (Par.ofLP providerL) (LQ.v intP (Par.q intP))) 3 [] (u3 zlz) default (LQ.v (Par.ofLP providerL) (Par.q intP)) 2 []
theorem z1x:ze Tryz.prog 36 (zs4).spec :=
 sK (A:=⟨[],[],[],[[1,2,3,6],[1,2,3,6,11],[6,7],[1,2,3,6,16],[6,7],[1,2,3,6,24],[6,7],[1,2,3,6,34],[6,7],[1,3,6,8,10],[1,3,6,8,10,52],[6,7],[3,6,8,10],[3,6,8,10,62],[6,7],[3,6],[6,7]],[]⟩) zh82 fM Tryz.func36 (c:=(fb Tryz.f36)) (by kernel_rfl) (Lc:=0) trivial _ _ 5 _ _ _ _ _ _ [.pubB 6] (by rintro ⟨a0,a1,a2⟩;kernel_rfl)
noncomputable def zy83:EnvT:=⟨Tryz.prog,zw [(172,z8c),(173,zpd),(174,z69),(127,ze5)]⟩
theorem zh83:(zy83).Ok:=zd ⟨zagf,zsm,zaar,zi6,trivial⟩
def zs5 (a0 a1:Int) (a2:za): Tr (za) :=
 (.guard ((0:Int)≤a0∧(a0:Int) < 2)
 (.guard ((zfd (a2.Links.Told.get a0) a2.Set).isSome=true)
 (.ite ((!(a2.Links.On.get a0))||(((((((zfd (a2.Links.Told.get a0) a2.Set).getD default).length:Nat):Int)==0)&&(!(a2.Links.Fresh.get a0)))&&((((a2.Links.Done.get a0).length:Nat):Int)==0)))
  (.leaf a2)
  (.guard ((zbz (⟨1,a2.Height,0,0,((zfd (a2.Links.Told.get a0) a2.Set).getD default),a2.Links.Done.get a0⟩:Packet)).isSome=true)
  (.ite ((((zbz (⟨1,a2.Height,0,0,((zfd (a2.Links.Told.get a0) a2.Set).getD default),a2.Links.Done.get a0⟩:Packet)).getD default).2) != 0)
   (.leaf a2)
   (.bind (zxr (⟨a2.Links.Said.get a0,a2.Links.Due.get a0,a2.Links.Got.get a0,a2.Links.Closed.get a0⟩:zcl) (((zbz (⟨1,a2.Height,0,0,((zfd (a2.Links.Told.get a0) a2.Set).getD default),a2.Links.Done.get a0⟩:Packet)).getD default).1) (IntKind.i64.wrap (a1+40))) fun v1 =>
   (.ite (v1.2 != 0)
    (.leaf a2)
    (.guard ((zav a2.Set).isSome=true)
    (.leaf ({ a2 with Links:={ a2.Links with Told:=(a2.Links.Told.set a0 ((zav a2.Set).getD default)),Fresh:=(a2.Links.Fresh.set a0 false),Done:=(a2.Links.Done.set a0 []),Said:=(a2.Links.Said.set a0 v1.1.Said),Due:=(a2.Links.Due.set a0 v1.1.Due),Got:=(a2.Links.Got.set a0 v1.1.Got),Closed:=(a2.Links.Closed.set a0 v1.1.Closed) } }))))))))))
def zli (a0 a1:Int) (a2:za):=(zs5 a0 a1 a2).run
def z0k:SpecT:=zm 1 (LQ.kp 0 0 (LQ.v intP (LQ.v intP (LP.q providerL)))) 3 [.cells 63 97] (u3 zs5) default (LP.q providerL) 0 [.cells 63 97]
theorem z8y:ze Tryz.prog 126 (z0k).spec :=
 sK (A:=⟨[],[],[],[[0,2,6],[0,2,6,7],[0,2,6,7,49],[0,2,6,8,9],[0,2,6,8,65],[0,6,9,10],[0,6,10,78],[]],[]⟩) zh83 fM Tryz.func126 (c:=(fb Tryz.f126)) (by kernel_rfl) (Lc:=1) trivial _ _ 4 _ _ _ _ _ _ [.pubN 0] (by rintro ⟨a0,a1,a2⟩;kernel_rfl)
def zs6 (a0:Int): Tr (Bool) :=
 (.leaf (a0 != a0))
def zhv (a0:Int):=(zs6 a0).run
def z0l:SpecT:=zm 0 (Par.q intP) 1 [] zs6 default (Par.q boolP) 1 []
theorem z8z:ze Tryz.prog 203 (z0l).spec :=
 sK (A:=⟨[],[],[],[[0],[2]],[]⟩) zhN fM Tryz.func203 (c:=(fb Tryz.f203)) (by kernel_rfl) (Lc:=0) trivial _ _ 2 _ _ _ _ _ _ [] (by rintro a0;kernel_rfl)
noncomputable def zy85:EnvT:=⟨Tryz.prog,zw [(203,z0l)]⟩
theorem zh85:(zy85).Ok:=zd ⟨z8z,trivial⟩
def zvl (a0 a1:Int): Tr (Bool) :=
 (.bind (zhv a0) fun v1 =>
 (.guard ((v1=true→((zhv a1).isSome=true)∧True))
 (.leaf ((v1&&(!((zhv a1).getD default)))||(decide (a0 < a1))))))
def zs7 (a0 a1:Int):=(zvl a0 a1).run
def z2k:SpecT:=zm 0 (LQ.v intP (Par.q intP)) 2 [] (u2 zvl) default (Par.q boolP) 1 []
theorem zaa6:ze Tryz.prog 188 (z2k).spec :=
 sK (A:=⟨[],[],[],[[0,1],[4]],[]⟩) zh85 fM Tryz.func188 (c:=(fb Tryz.f188)) (by kernel_rfl) (Lc:=0) trivial _ _ 2 _ _ _ _ _ _ [] (by rintro ⟨a0,a1⟩;kernel_rfl)
def znc (a0:Int): Tr (Bool) :=
 (.leaf (a0 != a0))
def zb7 (a0:Int):=(znc a0).run
def zuj:SpecT:=zm 0 (Par.q intP) 1 [] znc default (Par.q boolP) 1 []
theorem z3w:ze Tryz.prog 189 (zuj).spec :=
 sK (A:=⟨[],[],[],[[0],[2]],[]⟩) zhN fM Tryz.func189 (c:=(fb Tryz.f189)) (by kernel_rfl) (Lc:=0) trivial _ _ 2 _ _ _ _ _ _ [] (by rintro a0;kernel_rfl)
def zv87:List (List Nat):=[[0,1],[0,1,6],[0,1,6,7,8],[0,1,6,7,8,15],[0,1,6,7,8,9],[0,1,6,7,8,9,27],[0,1,6,7,8],[0,1,6,7,8],[4,5]]
noncomputable def zy87:EnvT:=⟨Tryz.prog,zw [(188,z2k),(189,zuj)]⟩
theorem zh87:(zy87).Ok:=zd ⟨zaa6,z3w,trivial⟩
def zcj (x0:(List Int)) (x1 x2 x3 x4:Int): Tr (((List Int)×Int×Int×Int×Int)⊕((List Int)×Int×Int×Int)) :=
 (.ite (decide (x3 < x4))
  (.guard ((0:Int)≤1)
  (.guard ((0:Int)≤(IntKind.i64.wrap (Int.fdiv (IntKind.u64.wrap (IntKind.i64.wrap (x3+x4))) (2 ^ 1)))∧(IntKind.i64.wrap (Int.fdiv (IntKind.u64.wrap (IntKind.i64.wrap (x3+x4))) (2 ^ 1))) < ((Sl.len (.ints x0):Nat):Int))
  (.bind (zs7 (x0.getD ((IntKind.i64.wrap (Int.fdiv (IntKind.u64.wrap (IntKind.i64.wrap (x3+x4))) (2 ^ 1))).toNat) 0) x1) fun v1 =>
  (.ite (v1)
   (.leaf (.inl (x0,x1,x2,IntKind.i64.wrap ((IntKind.i64.wrap (Int.fdiv (IntKind.u64.wrap (IntKind.i64.wrap (x3+x4))) (2 ^ 1)))+1),x4)))
   (.leaf (.inl (x0,x1,x2,x3,IntKind.i64.wrap (Int.fdiv (IntKind.u64.wrap (IntKind.i64.wrap (x3+x4))) (2 ^ 1)))))))))
  (.leaf (.inr (x0,x1,x2,x3))))
def zhw (x0:(List Int)) (x1 x2 x3 x4:Int):=zbp (fun s:(List Int)×Int×Int×Int×Int=>(zcj s.1 s.2.1 s.2.2.1 s.2.2.2.1 s.2.2.2.2).run) (x0,x1,x2,x3,x4)
def zbin:Ann:=⟨[],[],[],zv87,[]⟩
def zbio:=EndD.mk (LQ.v zbc (LQ.v intP (LQ.v intP (LQ.v intP (Par.q intP))))) ⟨[0,1,6,7,8],[.pub 0,.nilsl 0 (.ints [])]⟩ []
def za24:=EndD.mk (LQ.v zbc (LQ.v intP (LQ.v intP (Par.q intP)))) ⟨[0,1,6,7],[.pub 0,.nilsl 0 (.ints [])]⟩ []
def za7m:St→Option LR:=L1 54 2 0 zbio (.exit 0) za24 (u5 zcj)
def zs87a:=sub (fb Tryz.f164) [0,0,1,1,1]
theorem zbip:zk (zy87).env 0 zs87a za7m :=
 zb2 (A:=zbin) zh87 fM trivial (k:=zab zs87a) (by kernel_rfl) rfl (by rintro ⟨x0,x1,x2,x3,x4⟩;kernel_rfl)
def zfw (a0:(List Int)) (a1:Int): Tr (Int×Bool) :=
 (.bind (zhw a0 a1 ((a0.length:Nat):Int) 0 ((a0.length:Nat):Int)) fun v2 =>
 (.guard (((decide (v2.2.2.2 < v2.2.2.1))=true→((0:Int)≤v2.2.2.2∧v2.2.2.2 < ((Sl.len (.ints v2.1):Nat):Int))∧True))
 (.guard ((((v2.1.getD v2.2.2.2.toNat 0)==v2.2.1)=false→((decide (v2.2.2.2 < v2.2.2.1))=true→((0:Int)≤v2.2.2.2∧v2.2.2.2 < ((Sl.len (.ints v2.1):Nat):Int))∧True)))
 (.guard ((((v2.1.getD v2.2.2.2.toNat 0)==v2.2.1)=false→((decide (v2.2.2.2 < v2.2.2.1))=true→((zb7 (v2.1.getD v2.2.2.2.toNat 0)).isSome=true)∧True)))
 (.guard ((((zb7 (v2.1.getD v2.2.2.2.toNat 0)).getD default)=true→(((v2.1.getD v2.2.2.2.toNat 0)==v2.2.1)=false→((decide (v2.2.2.2 < v2.2.2.1))=true→((zb7 v2.2.1).isSome=true)∧True))))
 (.leaf (v2.2.2.2,(decide (v2.2.2.2 < v2.2.2.1))&&(((v2.1.getD v2.2.2.2.toNat 0)==v2.2.1)||(((zb7 (v2.1.getD v2.2.2.2.toNat 0)).getD default)&&((zb7 v2.2.1).getD default))))))))))
def zx (a0:(List Int)) (a1:Int):=(zfw a0 a1).run
def zk4:SpecT:=zm 0 (LQ.v zbc (Par.q intP)) 2 [] (u2 zfw) default (LQ.v intP (Par.q boolP)) 2 []
theorem ztx:ze Tryz.prog 164 (zk4).spec :=
 sK (A:=⟨[([0,0,1,1,1],za7m)],[],[],zv87,[]⟩) zh87 fM Tryz.func164 (c:=(fb Tryz.f164)) (by kernel_rfl) (Lc:=0) ⟨zbip,trivial⟩ _ _ 2 _ _ _ _ _ _ [] (by rintro ⟨a0,a1⟩;kernel_rfl)
noncomputable def zy88:EnvT:=⟨Tryz.prog,zw [(161,zsp),(162,z78),(163,z8b),(164,zk4),(166,zmu),(165,F_slices_Insert_int),(82,zxy),(83,z0c)]⟩
theorem zh88:(zy88).Ok:=zd ⟨zyr,zagb,zage,ztx,zsj,z1u,z2f,z5r,trivial⟩
def zs8 (a0:Asked) (a1:za): Tr (Bool×za) :=
 (.guard ((0:Int)≤a0.P.V∧(a0.P.V:Int) < 6)
 (.guard ((0:Int)≤a0.C∧(a0.C:Int) < 2)
 (.ite (a0.P.Kind==2)
  (.guard ((zhp a1.Stake a0.C a0.P.Id).isSome=true)
  (.leaf (true,{ a1 with Stake:=((zhp a1.Stake a0.C a0.P.Id).getD default) })))
  (.ite (a0.P.Kind==3)
   (.ite (!(a1.Stake.Validators.Jailed.get a0.P.V))
    (.guard ((100:Int)≠0)
    (.guard ((zjy a1.Meter (if (IntKind.i64.wrap (Int.tdiv (a1.Stake.Validators.Tokens.get a0.P.V) 100)) > 1 then (IntKind.i64.wrap (Int.tdiv (a1.Stake.Validators.Tokens.get a0.P.V) 100)) else 1)).isSome=true)
    (.ite (!(((zjy a1.Meter (if (IntKind.i64.wrap (Int.tdiv (a1.Stake.Validators.Tokens.get a0.P.V) 100)) > 1 then (IntKind.i64.wrap (Int.tdiv (a1.Stake.Validators.Tokens.get a0.P.V) 100)) else 1)).getD default).2))
     (.leaf (false,a1))
     (.guard ((zm5 a1.Stake a0.P.V).isSome=true)
     (.guard ((zx (a1.Links.Done.get a0.C) a0.P.V).isSome=true)
     (.ite (!(((zx (a1.Links.Done.get a0.C) a0.P.V).getD default).2))
      (.guard ((zaf (a1.Links.Done.get a0.C)).isSome=true)
      (.guard ((zcz ((zaf (a1.Links.Done.get a0.C)).getD default) (((zx (a1.Links.Done.get a0.C) a0.P.V).getD default).1) [a0.P.V]).isSome=true)
      (.leaf (true,{ a1 with Stake:=(((zm5 a1.Stake a0.P.V).getD default).1),Links:={ a1.Links with Done:=(a1.Links.Done.set a0.C ((zcz ((zaf (a1.Links.Done.get a0.C)).getD default) (((zx (a1.Links.Done.get a0.C) a0.P.V).getD default).1) [a0.P.V]).getD default)) },Meter:=(((zjy a1.Meter (if (IntKind.i64.wrap (Int.tdiv (a1.Stake.Validators.Tokens.get a0.P.V) 100)) > 1 then (IntKind.i64.wrap (Int.tdiv (a1.Stake.Validators.Tokens.get a0.P.V) 100)) else 1)).getD default).1) }))))
      (.leaf (true,{ a1 with Stake:=(((zm5 a1.Stake a0.P.V).getD default).1),Meter:=(((zjy a1.Meter (if (IntKind.i64.wrap (Int.tdiv (a1.Stake.Validators.Tokens.get a0.P.V) 100)) > 1 then (IntKind.i64.wrap (Int.tdiv (a1.Stake.Validators.Tokens.get a0.P.V) 100)) else 1)).getD default).1) }))))))))
    (.guard ((zx (a1.Links.Done.get a0.C) a0.P.V).isSome=true)
    (.ite (!(((zx (a1.Links.Done.get a0.C) a0.P.V).getD default).2))
     (.guard ((zaf (a1.Links.Done.get a0.C)).isSome=true)
     (.guard ((zcz ((zaf (a1.Links.Done.get a0.C)).getD default) (((zx (a1.Links.Done.get a0.C) a0.P.V).getD default).1) [a0.P.V]).isSome=true)
     (.leaf (true,{ a1 with Links:={ a1.Links with Done:=(a1.Links.Done.set a0.C ((zcz ((zaf (a1.Links.Done.get a0.C)).getD default) (((zx (a1.Links.Done.get a0.C) a0.P.V).getD default).1) [a0.P.V]).getD default)) } }))))
     (.leaf (true,a1)))))
   (.ite (a0.P.Kind==4)
    (.ite (!(a1.Stake.Validators.Dead.get a0.P.V))
     (.guard ((zia a1.Stake a0.P.V (if (a1.Links.Base.get a0.C) > a0.P.Id then (a1.Links.Base.get a0.C) else a0.P.Id) 50).isSome=true)
     (.guard ((zm6 (((zia a1.Stake a0.P.V (if (a1.Links.Base.get a0.C) > a0.P.Id then (a1.Links.Base.get a0.C) else a0.P.Id) 50).getD default).1) a0.P.V).isSome=true)
     (.leaf (true,{ a1 with Stake:=(((zm6 (((zia a1.Stake a0.P.V (if (a1.Links.Base.get a0.C) > a0.P.Id then (a1.Links.Base.get a0.C) else a0.P.Id) 50).getD default).1) a0.P.V).getD default).1) }))))
     (.leaf (true,a1)))
    (.leaf (true,a1)))))))
def zqs (a0:Asked) (a1:za):=(zs8 a0 a1).run
def z0m:SpecT:=zm 1 (LQ.kp 0 0 (LQ.v (Par.ofLP z19) (LP.q providerL))) 2 [.cells 63 97] (u2 zs8) default (LQ.v boolP (LP.q providerL)) 1 [.cells 63 97]
theorem z80:ze Tryz.prog 123 (z0m).spec :=
 sK (A:=⟨[],[],[],[[0,3],[0,3,5],[0,3,5,6],[0,3,5,6,28],[0,3,5,6,28,29],[],[0,3,5,6,28,44],[0,3,5,6,48],[0,3,6,7,8],[0,3,6,7,62],[4],[0,3,6],[3,6],[3,6,9,10],[3,6,9,93],[],[0,3,5,6,108],[0,3,6,112],[0,3],[],[4]],[]⟩) zh88 fM Tryz.func123 (c:=(fb Tryz.f123)) (by kernel_rfl) (Lc:=1) trivial _ _ 9 _ _ _ _ _ _ [.pubN 0] (by rintro ⟨a0,a1⟩;kernel_rfl)
def zv89:List (List Nat):=[[1,2,4],[1,2,4,27],[4,5,6],[1,2,4],[1,2,4],[1,2,4,7],[1,2,4,7,8],[1,2,4,7,8,44,45,46],[1,2,4,7,8,44,45,46,47],[1,2,4,7,8,10,44,45,46],[1,2,4,7,8,10,44,45,46,58],[1,2,4,7,8,10,44,45,46],[1,2,4,7,8,44,45,46],[1,2,4,7,8,44,45,46],[1,2,4],[1,2,4,11,12,13],[1,2,4,11,12,13,78],[4,5,6],[1,2,4,12],[1,2,4,12],[1,2,4,12,87],[1,2,4,12,87,88],[1,2,4,12,14,87],[1,2,4,12,87],[1,2,4,12,87],[4,5,6]]
noncomputable def zy89:EnvT:=⟨Tryz.prog,zw [(78,zdo),(122,zaa1),(121,z77),(123,z0m),(124,zaaz),(125,zaa2),(126,z0k)]⟩
theorem zh89:(zy89).Ok:=zd ⟨zd4,zaig,zaga,z80,zaif,zaih,z8y,trivial⟩
def zgk (x0:Int) (x1:(List Asked)) (x2 x3:Int) (x4 x5:za) (x6:(A2 Bool)) (x7:(List Asked)): Tr ((Int×(List Asked)×Int×Int×za×za×(A2 Bool)×(List Asked))⊕(Int×za×za×(List Asked))) :=
 (.ite (decide (x3 < x2))
  (.guard ((0:Int)≤x3∧x3 < ((Sl.len (.asked x1):Nat):Int))
  (.guard ((0:Int)≤((x1.getD x3.toNat default).C)∧(((x1.getD x3.toNat default).C):Int) < 2)
  (.ite (x6.get ((x1.getD x3.toNat default).C))
   (.ite ((true:Bool))
    (.ite ((true:Bool))
     (.ite ((true:Bool))
      (.guard ((0:Int)≤((x1.getD x3.toNat default).C)∧(((x1.getD x3.toNat default).C):Int) < 2)
      (.guard ((Sl.len (.asked x7)+Sl.len (.asked [(x1.getD x3.toNat default)]))*88≤140737488355328)
      (.leaf (.inl (x0,x1,x2,IntKind.i64.wrap (x3+1),x4,x5,(x6.set ((x1.getD x3.toNat default).C) true),x7++[(x1.getD x3.toNat default)])))))
      (.leaf (.inl (x0,x1,x2,IntKind.i64.wrap (x3+1),x4,x5,x6,x7))))
     .fail)
    .fail)
   (.bind (zqs (x1.getD x3.toNat default) x4) fun v2 =>
   (.ite ((false:Bool)||(!v2.1))
    (.guard ((0:Int)≤((x1.getD x3.toNat default).C)∧(((x1.getD x3.toNat default).C):Int) < 2)
    (.guard ((Sl.len (.asked x7)+Sl.len (.asked [(x1.getD x3.toNat default)]))*88≤140737488355328)
    (.leaf (.inl (x0,x1,x2,IntKind.i64.wrap (x3+1),v2.2,x5,(x6.set ((x1.getD x3.toNat default).C) true),x7++[(x1.getD x3.toNat default)])))))
    (.leaf (.inl (x0,x1,x2,IntKind.i64.wrap (x3+1),v2.2,x5,x6,x7))))))))
  (.leaf (.inr (x0,x4,x5,x7))))
def zi0 (x0:Int) (x1:(List Asked)) (x2 x3:Int) (x4 x5:za) (x6:(A2 Bool)) (x7:(List Asked)):=zbp (fun s:Int×(List Asked)×Int×Int×za×za×(A2 Bool)×(List Asked)=>(zgk s.1 s.2.1 s.2.2.1 s.2.2.2.1 s.2.2.2.2.1 s.2.2.2.2.2.1 s.2.2.2.2.2.2.1 s.2.2.2.2.2.2.2).run) (x0,x1,x2,x3,x4,x5,x6,x7)
def zbit:Ann:=⟨[],[],[],zv89,[(23,[9700002])]⟩
def zbiu:=EndD.mk (LQ.v intP (LQ.kp 0 0 (LQ.kp 1 0 (LQ.k (LQ.c (.own 3)) (LQ.kp 2 0 (LQ.v zal (LQ.v intP (LQ.v intP (LQ.seq (LP.q providerL) (LQ.seq (LP.q providerL) (LQ.seq (LP.q (a2L (LP.one boolP))) (Par.q zal)))))))))))) ⟨[1,2,4,7,8,44,45,46],[.nilown 7 112 (.asked []),.pub 44,.nilsl 44 (.asked [])]⟩ [.cells 63 97,.cells 63 97,.cells 175 2,.rows 112]
def za25:=EndD.mk (LQ.v intP (LQ.kp 0 0 (LQ.kp 1 0 (LQ.k (LQ.c (.own 2)) (LQ.seq (LP.q providerL) (LQ.seq (LP.q providerL) (Par.q zal))))))) ⟨[1,2,4,7],[.nilown 7 112 (.asked [])]⟩ [.cells 63 97,.cells 63 97,.rows 112]
def za7n:St→Option LR:=L1 96 9 0 zbiu (.exit 0) za25 (u8 zgk)
def zs89a:=sub (fb Tryz.f84) [0,1,0,1,1,1,1,1,1]
theorem zbiv:zk (zy89).env 0 zs89a za7n :=
 zb2 (A:=zbit) zh89 fM trivial (k:=zab zs89a) (by kernel_rfl) rfl (by rintro ⟨x0,x1,x2,x3,x4,x5,x6,x7⟩;kernel_rfl)
def zgl (x0:Int) (x1:(List Int)) (x2:Int) (x3 x4:za): Tr ((Int×(List Int)×Int×za×za)⊕((List Int)×za×za)) :=
 (.ite (decide (x2 < 2))
  (.bind (zli x2 x0 x3) fun v6 =>
  (.leaf (.inl (x0,x1,IntKind.i64.wrap (x2+1),v6,x4))))
  (.leaf (.inr (x1,x3,x4))))
def znd (x0:Int) (x1:(List Int)) (x2:Int) (x3 x4:za):=zbp (fun s:Int×(List Int)×Int×za×za=>(zgl s.1 s.2.1 s.2.2.1 s.2.2.2.1 s.2.2.2.2).run) (x0,x1,x2,x3,x4)
def zbiw:Ann:=⟨[],[],[],zv89,[(23,[9700002])]⟩
def zbix:=EndD.mk (LQ.v intP (LQ.kp 0 0 (LQ.kp 1 0 (LQ.v zbc (LQ.v intP (LQ.seq (LP.q providerL) (LP.q providerL))))))) ⟨[1,2,4,12,87],[.pubC 2 96,.pub 12,.nilsl 12 (.ints [])]⟩ [.cells 63 97,.cells 63 97]
def za26:=EndD.mk (LQ.kp 0 0 (LQ.kp 1 0 (LQ.v zbc (LQ.seq (LP.q providerL) (LP.q providerL))))) ⟨[2,4,12],[.pubC 2 96,.pub 12,.nilsl 12 (.ints [])]⟩ [.cells 63 97,.cells 63 97]
def za7o:St→Option LR:=L1 96 9 0 zbix (.exit 2) za26 (u5 zgl)
def zs89b:=sub (fb Tryz.f84) [0,1,0,1,1,1,1,1,1,1,1,1,1,1,1]
theorem zbiy:zk (zy89).env 0 zs89b za7o :=
 zb2 (A:=zbiw) zh89 fM trivial (k:=zab zs89b) (by kernel_rfl) rfl (by rintro ⟨x0,x1,x2,x3,x4⟩;kernel_rfl)
def zvm (a0:za) (a1:Int): Tr (za×(List Int)×Int) :=
 (.bind (zb5 a0) fun v1 =>
 (.ite (((!v1)||(decide (a1 < a0.Time)))||(decide (a1 > 1099511627776)))
  (.leaf (a0,[],2))
  (.guard ((zpp a0.Set).isSome=true)
  (.guard ((zrp a0.Meter ((zpp a0.Set).getD default) a1).isSome=true)
  (.bind (zi0 a1 a0.Queue ((a0.Queue.length:Nat):Int) 0 ({ a0 with Height:=IntKind.i64.wrap (a0.Height+1),Time:=a1,Meter:=((zrp a0.Meter ((zpp a0.Set).getD default) a1).getD default) }) (default:za) (⟨false,false⟩:(A2 Bool)) []) fun v3 =>
  (.bind (zug v3.2.1.Stake v3.1) fun v4 =>
  (.ite (v4.2.2 != 0)
   (.leaf ({ v3.2.1 with Queue:=v3.2.2.2 },[],v4.2.2))
   (.bind (z0g v4.1) fun v5 =>
   (.bind (znd v3.1 v4.2.1 0 ({ v3.2.1 with Stake:=v4.1,Set:=v5,Queue:=v3.2.2.2 }) v3.2.2.1) fun v7 =>
   (.leaf (v7.2.1,v7.1,0)))))))))))
def zdr (a0:za) (a1:Int):=(zvm a0 a1).run
def z2l:SpecT:=zm 0 (LQ.v (Par.ofLP providerL) (Par.q intP)) 2 [] (u2 zvm) default (LQ.v (Par.ofLP providerL) (LQ.v zbc (Par.q intP))) 3 []
theorem zaa7:ze Tryz.prog 84 (z2l).spec :=
 sK (A:=⟨[([0,1,0,1,1,1,1,1,1],za7n),([0,1,0,1,1,1,1,1,1,1,1,1,1,1,1],za7o)],[],[],zv89,[(23,[9700002])]⟩) zh89 fM Tryz.func84 (c:=(fb Tryz.f84)) (by kernel_rfl) (Lc:=0) ⟨zbiv,zbiy,trivial⟩ _ _ 9 _ _ _ _ _ _ [.pubB 4,.pub 5] (by rintro ⟨a0,a1⟩;kernel_rfl)
end
