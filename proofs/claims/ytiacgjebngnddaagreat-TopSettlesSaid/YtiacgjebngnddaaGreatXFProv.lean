/-
  The functions, each by its tree.
-/
import Derived.Test.YtiacgjebngnddaaGreatXAbC
import Derived.Test.YtiacgjebngnddaaGreatXAbClear
import Derived.Test.YtiacgjebngnddaaGreatXAbInsert
import Derived.Test.YtiacgjebngnddaaGreatXFBank
import Derived.Test.YtiacgjebngnddaaGreatXFCodec
import Derived.Test.YtiacgjebngnddaaGreatXFLine
import Derived.Test.YtiacgjebngnddaaGreatXFRatio
import Derived.Test.YtiacgjebngnddaaGreatXFStakeA
import Derived.Test.YtiacgjebngnddaaGreatXFStakeB
import Derived.Test.YtiacgjebngnddaaGreatXFacts
namespace Go.Proofs.YtiacgjebngnddaaGreat.Ab
open Go Go.RowKit
open Go.IntKind (i64 u64)
set_option maxRecDepth 100000
set_option linter.unusedVariables false
set_option linter.unusedSimpArgs false
noncomputable section
noncomputable def zy67:EnvT:=⟨Tryz.prog,zah [(54,z12),(55,zwe)]⟩
theorem zh67:(zy67).Ok:=zf ⟨z8y,zzw,trivial⟩
def zp1  : Tr (zb) :=
 (.bind (zth) fun v1 =>
 (.bind (zo7 0 0) fun v2 =>
 (.leaf (⟨0,0,v1,[],(default:Links),v2,[]⟩:zb))))
def zn7  := (zp1 ).run
def zvh:SpecT:=zw 0 LQ.nil 0 [] (fun s=>zp1 ) default (Par.q (Par.ofLP providerL)) 1 []
theorem z18:zg Tryz.prog 36 (zvh).spec :=
 sK (A:=⟨[],[],[],[[0],[0]],[]⟩) zh67 fM Tryz.func36 (c:=(fb Tryz.f36)) (by kernel_rfl) (Lc:=0) trivial _ _ 3 _ _ _ _ _ _ [.pubB 0] (by rintro _;kernel_rfl)
def zv68:List (List Nat):=[[0],[0,5,6,7],[0,5,6,7,8],[0,3,4,5,6,7],[0,5,6,7,44],[2],[0,5,6,7],[2]]
def zg6 (x0 x1:(List Power)) (x2 x3:Int): Tr (((List Power)×(List Power)×Int×Int)⊕((Bool)⊕(Unit))) :=
 (.ite (decide (x3 < x2))
  (.guard ((0:Int)≤x3∧x3 < ((Sl.len (.powers x1):Nat):Int))
  (.guard (((decide (x3 > 0))=true→(((decide (((x1.getD x3.toNat default).V) < 0))||(decide (((x1.getD x3.toNat default).V)≥6)))=false→((0:Int)≤(i64.wrap (x3 - 1))∧(i64.wrap (x3 - 1)) < ((Sl.len (.powers x0):Nat):Int))∧True)))
  (.ite (((((decide (((x1.getD x3.toNat default).V) < 0))||(decide (((x1.getD x3.toNat default).V)≥6)))||((decide (x3 > 0))&&(decide (((x0.getD ((i64.wrap (x3 - 1)).toNat) default).V)≥((x1.getD x3.toNat default).V)))))||(decide (((x1.getD x3.toNat default).N) < 1)))||(decide (((x1.getD x3.toNat default).N) > 1125899906842624)))
   (.leaf (.inr (.inl false)))
   (.leaf (.inl (x0,x1,x2,i64.wrap (x3+1)))))))
  (.leaf (.inr (.inr ()))))
def zpd (x0 x1:(List Power)) (x2 x3:Int):=zdm (fun s:(List Power)×(List Power)×Int×Int=>(zg6 s.1 s.2.1 s.2.2.1 s.2.2.2).run) (x0,x1,x2,x3)
def za0q:Ann:=⟨[],[],[],zv68,[]⟩
def za0r:=EndD.mk (LQ.v zp (LQ.v zp (LQ.v intP (Par.q intP)))) ⟨[0,5,6,7],[.pub 0,.nilsl 0 (.powers []),.pub 5,.nilsl 5 (.powers [])]⟩ []
def zaq8:=EndD.mk (Par.q boolP) ⟨[2],[]⟩ []
def zaq9:EndD (Unit):=⟨LQ.nil,⟨[],[]⟩,[]⟩
def zauv:St→Option LR:=L2 46 3 0 za0r .ret zaq8 (.exit 0) zaq9 (u4 zg6)
def zs68a:=sub (fb Tryz.f57) [0,1,0,1]
theorem za0s:zt (zyN).env 0 zs68a zauv :=
 znl (A:=za0q) zhN fM trivial (k:=zcd zs68a) (by kernel_rfl) rfl rfl (by rintro ⟨x0,x1,x2,x3⟩;kernel_rfl)
def zp2 (a0:(List Power)): Tr (Bool) :=
 (.two (zpd a0 a0 ((a0.length:Nat):Int) 0) (fun v1 =>
  (.leaf v1)) (fun v2 =>
  (.leaf true)))
def zdd (a0:(List Power)):=(zp2 a0).run
def zvi:SpecT:=zw 0 (Par.q zp) 1 [] zp2 default (Par.q boolP) 1 []
theorem z19:zg Tryz.prog 57 (zvi).spec :=
 sK (A:=⟨[([0,1,0,1],zauv)],[],[],zv68,[]⟩) zhN fM Tryz.func57 (c:=(fb Tryz.f57)) (by kernel_rfl) (Lc:=0) ⟨za0s,trivial⟩ _ _ 3 _ _ _ _ _ _ [] (by rintro a0;kernel_rfl)
noncomputable def zy69:EnvT:=⟨Tryz.prog,zah [(29,zlp)]⟩
theorem zh69:(zy69).Ok:=zf ⟨zm7,trivial⟩
def zkw (a0:Asked) (a1:zb): Tr (Bool×zb) :=
 (.guard ((((decide (a0.C < 0))||(decide (a0.C≥2)))=false→((0:Int)≤a0.C∧(a0.C:Int) < 2)∧True))
 (.guard (((((decide (a0.C < 0))||(decide (a0.C≥2)))||(!(a1.Links.On.get a0.C)))=false→((zfi a0.P).isSome=true)∧True))
 (.leaf (((((decide (a0.C < 0))||(decide (a0.C≥2)))||(!(a1.Links.On.get a0.C)))||(((zfi a0.P).getD default) != 0))||(a0.P.Kind==1),a1))))
def zj1 (a0:Asked) (a1:zb):=(zkw a0 a1).run
def zqt:SpecT:=zw 1 (LQ.v (Par.ofLP zahm) (LQ.kp 0 0 (LP.q providerL))) 2 [.cells 58 97] (u2 zkw) default (LQ.v boolP (LP.q providerL)) 1 [.cells 58 97]
theorem zx3:zg Tryz.prog 60 (zqt).spec :=
 sK (A:=⟨[],[],[],[[1,2],[3]],[]⟩) zh69 fM Tryz.func60 (c:=(fb Tryz.f60)) (by kernel_rfl) (Lc:=1) trivial _ _ 4 _ _ _ _ _ _ [.pubN 0] (by rintro ⟨a0,a1⟩;kernel_rfl)
def zv70:List (List Nat):=[[0,1],[0,1,7,8],[0,1,7,8,9],[0,1,5,7,8],[0,1,5,7,8,16],[4],[0,1,7,8],[4]]
noncomputable def zy70:EnvT:=⟨Tryz.prog,zah [(60,zqt)]⟩
theorem zh70:(zy70).Ok:=zf ⟨zx3,trivial⟩
def zae (x0:(List Asked)) (x1 x2:Int) (x3:zb): Tr (((List Asked)×Int×Int×zb)⊕((Int×zb)⊕(zb))) :=
 (.ite (decide (x2 < x1))
  (.guard ((0:Int)≤x2∧x2 < ((Sl.len (.asked x0):Nat):Int))
  (.bind (zj1 (x0.getD x2.toNat default) x3) fun v1 =>
  (.ite (v1.1)
   (.leaf (.inr (.inl (x2,v1.2))))
   (.leaf (.inl (x0,x1,i64.wrap (x2+1),v1.2))))))
  (.leaf (.inr (.inr x3))))
def zdo (x0:(List Asked)) (x1 x2:Int) (x3:zb):=zdm (fun s:(List Asked)×Int×Int×zb=>(zae s.1 s.2.1 s.2.2.1 s.2.2.2).run) (x0,x1,x2,x3)
def za0t:Ann:=⟨[],[],[],zv70,[]⟩
def za0u:=EndD.mk (LQ.v zel (LQ.k (LQ.c (.fn 60 [.ptr 0 0])) (LQ.v intP (LQ.v intP (LP.q providerL))))) ⟨[0,1,7,8],[.pub 0,.nilsl 0 (.asked [])]⟩ [.cells 58 97]
def zara:=EndD.mk (LQ.v intP (LP.q providerL)) ⟨[4],[]⟩ [.cells 58 97]
def zarb:=EndD.mk (LP.q providerL) ⟨[],[]⟩ [.cells 58 97]
def zauw:St→Option LR:=L2 19 3 1 za0u .ret zara (.exit 0) zarb (u4 zae)
def zs70a:=sub (fb Tryz.f92) [0,1,0,1]
theorem za0v:zt (zy70).env 1 zs70a zauw :=
 znl (A:=za0t) zh70 fM trivial (k:=zcd zs70a) (by kernel_rfl) rfl rfl (by rintro ⟨x0,x1,x2,x3⟩;kernel_rfl)
def zbd (a0:(List Asked)) (a1:zb): Tr (Int×zb) :=
 (.two (zdo a0 ((a0.length:Nat):Int) 0 a1) (fun v2 =>
  (.leaf (v2.1,v2.2))) (fun v3 =>
  (.leaf (-1,v3))))
def zce (a0:(List Asked)) (a1:zb):=(zbd a0 a1).run
def ze4:SpecT:=zw 1 (LQ.v zel (LQ.k (LQ.c (.fn 60 [.ptr 0 0])) (LP.q providerL))) 2 [.cells 58 97] (u2 zbd) default (LQ.v intP (LP.q providerL)) 1 [.cells 58 97]
theorem zkx:zg Tryz.prog 92 (ze4).spec :=
 sK (A:=⟨[([0,1,0,1],zauw)],[],[],zv70,[]⟩) zh70 fM Tryz.func92 (c:=(fb Tryz.f92)) (by kernel_rfl) (Lc:=1) ⟨za0v,trivial⟩ _ _ 3 _ _ _ _ _ _ [.pubN 0] (by rintro ⟨a0,a1⟩;kernel_rfl)
noncomputable def zy71:EnvT:=⟨Tryz.prog,zah [(92,ze4)]⟩
theorem zh71:(zy71).Ok:=zf ⟨zkx,trivial⟩
def zcf (a0:(List Asked)) (a1:zb): Tr (Bool×zb) :=
 (.bind (zce a0 a1) fun v1 =>
 (.leaf (decide (v1.1≥0),v1.2)))
def zb7 (a0:(List Asked)) (a1:zb):=(zcf a0 a1).run
def zey:SpecT:=zw 1 (LQ.v zel (LQ.k (LQ.c (.fn 60 [.ptr 0 0])) (LP.q providerL))) 2 [.cells 58 97] (u2 zcf) default (LQ.v boolP (LP.q providerL)) 1 [.cells 58 97]
theorem zkc:zg Tryz.prog 59 (zey).spec :=
 sK (A:=⟨[],[],[],[[0,1],[4]],[]⟩) zh71 fM Tryz.func59 (c:=(fb Tryz.f59)) (by kernel_rfl) (Lc:=1) trivial _ _ 3 _ _ _ _ _ _ [.pubN 0] (by rintro ⟨a0,a1⟩;kernel_rfl)
def zv72:List (List Nat):=[[1],[1,36],[2],[1,38,39],[1,38,39,40],[1,4,38,39],[1,4,38,39,71],[2],[1,4,38,39,73,74,75],[1,4,38,39,73,74,75,76],[1,4,5,6,38,39,73,74,75],[1,4,38,39,73,74,75,99],[2],[1,4,38,39,73,74,75],[1,38,39],[2]]
noncomputable def zy72:EnvT:=⟨Tryz.prog,zah [(56,zo9),(57,zvi),(58,zko),(59,zey)]⟩
theorem zh72:(zy72).Ok:=zf ⟨zrv,z19,zlo,zkc,trivial⟩
def zgd (x0:Links) (x1:Int) (x2:(List Int)) (x3 x4:Int) (x5:zb) (x6:Link): Tr ((Links×Int×(List Int)×Int×Int×zb×Link)⊕((Bool)⊕(Links×Int×zb))) :=
 (.ite (decide (x4 < x3))
  (.guard ((0:Int)≤x4∧x4 < ((Sl.len (.ints x2):Nat):Int))
  (.guard (((decide (x4 > 0))=true→(((decide ((x2.getD x4.toNat 0) < 0))||(decide ((x2.getD x4.toNat 0)≥6)))=false→((0:Int)≤(i64.wrap (x4 - 1))∧(i64.wrap (x4 - 1)) < ((Sl.len (.ints x6.Done):Nat):Int))∧True)))
  (.ite (((decide ((x2.getD x4.toNat 0) < 0))||(decide ((x2.getD x4.toNat 0)≥6)))||((decide (x4 > 0))&&(decide ((x6.Done.getD ((i64.wrap (x4 - 1)).toNat) 0)≥(x2.getD x4.toNat 0)))))
   (.leaf (.inr (.inl false)))
   (.leaf (.inl (x0,x1,x2,x3,i64.wrap (x4+1),x5,x6))))))
  (.leaf (.inr (.inr (x0,x1,x5)))))
def zn8 (x0:Links) (x1:Int) (x2:(List Int)) (x3 x4:Int) (x5:zb) (x6:Link):=zdm (fun s:Links×Int×(List Int)×Int×Int×zb×Link=>(zgd s.1 s.2.1 s.2.2.1 s.2.2.2.1 s.2.2.2.2.1 s.2.2.2.2.2.1 s.2.2.2.2.2.2).run) (x0,x1,x2,x3,x4,x5,x6)
def za0z:Ann:=⟨[],[],[],zv72,[]⟩
def za00:=EndD.mk (LQ.kp 0 0 (LQ.kp 1 0 (LQ.v (Par.ofLP linksL) (LQ.v intP (LQ.v zgh (LQ.v intP (LQ.v intP (LQ.seq (LP.q providerL) (LP.q zas4))))))))) ⟨[1,4,38,39,73,74,75],[.pub 73,.nilsl 73 (.ints [])]⟩ [.cells 58 97,.cells 52 14]
def zarc:=EndD.mk (Par.q boolP) ⟨[2],[]⟩ []
def zard:=EndD.mk (LQ.kp 0 0 (LQ.v (Par.ofLP linksL) (LQ.v intP (LP.q providerL)))) ⟨[1,38,39],[]⟩ [.cells 58 97]
def zaux:St→Option LR:=L2 107 4 0 za00 .ret zarc (.exit 2) zard (u7 zgd)
def zs72a:=sub (fb Tryz.f40) [0,1,1,1,0,0,1,1,0,0,1,0,1,1]
theorem za01:zt (zy72).env 0 zs72a zaux :=
 znl (A:=za0z) zh72 fM trivial (k:=zcd zs72a) (by kernel_rfl) rfl rfl (by rintro ⟨x0,x1,x2,x3,x4,x5,x6⟩;kernel_rfl)
def zcw (x0:Links) (x1:Int) (x2:zb): Tr ((Links×Int×zb)⊕((Bool)⊕(zb))) :=
 (.ite (decide (x1 < 2))
  (.guard ((0:Int)≤x1∧(x1:Int) < 2)
  (.guard ((((((x0.On.get x1)&&(x0.Gone.get x1))||(decide ((x0.Base.get x1) < 0)))||(decide ((x0.Base.get x1) > x2.Height)))=false→((zdd (x0.Told.get x1)).isSome=true)∧True))
  (.guard (((((((x0.On.get x1)&&(x0.Gone.get x1))||(decide ((x0.Base.get x1) < 0)))||(decide ((x0.Base.get x1) > x2.Height)))||(!((zdd (x0.Told.get x1)).getD default)))=false→((zdz (⟨x0.Said.get x1,x0.Due.get x1,x0.Got.get x1,x0.Closed.get x1⟩:zi6)).isSome=true)∧True))
  (.ite ((((((x0.On.get x1)&&(x0.Gone.get x1))||(decide ((x0.Base.get x1) < 0)))||(decide ((x0.Base.get x1) > x2.Height)))||(!((zdd (x0.Told.get x1)).getD default)))||(!((zdz (⟨x0.Said.get x1,x0.Due.get x1,x0.Got.get x1,x0.Closed.get x1⟩:zi6)).getD default)))
   (.leaf (.inr (.inl false)))
   (.two (zn8 x0 x1 (x0.Done.get x1) (((x0.Done.get x1).length:Nat):Int) 0 x2 (⟨x0.On.get x1,x0.Gone.get x1,x0.Base.get x1,x0.Told.get x1,x0.Fresh.get x1,x0.Done.get x1,(⟨x0.Said.get x1,x0.Due.get x1,x0.Got.get x1,x0.Closed.get x1⟩:zi6),(⟨x0.SHeight.get x1,x0.STime.get x1,x0.SSaid.get x1,x0.SGot.get x1⟩:Head)⟩:Link)) (fun v2 =>
    (.leaf (.inr (.inl v2)))) (fun v3 =>
    (.leaf (.inl (v3.1,i64.wrap (v3.2.1+1),v3.2.2)))))))))
  (.leaf (.inr (.inr x2))))
def zix (x0:Links) (x1:Int) (x2:zb):=zdm (fun s:Links×Int×zb=>(zcw s.1 s.2.1 s.2.2).run) (x0,x1,x2)
def za02:Ann:=⟨[([0,1,1,1,0,0,1,1,0,0,1,0,1,1],zaux)],[],[],zv72,[]⟩
def za03:=EndD.mk (LQ.kp 0 0 (LQ.v (Par.ofLP linksL) (LQ.v intP (LP.q providerL)))) ⟨[1,38,39],[]⟩ [.cells 58 97]
def zare:=EndD.mk (Par.q boolP) ⟨[2],[]⟩ []
def zarf:=EndD.mk (LQ.kp 0 0 (LP.q providerL)) ⟨[1],[]⟩ [.cells 58 97]
def zauy:St→Option LR:=L2 107 4 0 za03 .ret zare (.exit 0) zarf (u3 zcw)
def zs72b:=sub (fb Tryz.f40) [0,1,0,1,1]
theorem za04:zt (zy72).env 0 zs72b zauy :=
 znl (A:=za02) zh72 fM ⟨za01,trivial⟩ (k:=zcd zs72b) (by kernel_rfl) rfl rfl (by rintro ⟨x0,x1,x2⟩;kernel_rfl)
def zn9 (a0:zb): Tr (Bool) :=
 (.bind (zjt a0.Stake) fun v1 =>
 (.guard (((((((!v1)||(decide (a0.Height < 0)))||(decide (a0.Height≥1099511627776)))||(decide (a0.Time < 0)))||(decide (a0.Time > 1099511627776)))=false→((zdd a0.Set).isSome=true)∧True))
 (.ite ((((((!v1)||(decide (a0.Height < 0)))||(decide (a0.Height≥1099511627776)))||(decide (a0.Time < 0)))||(decide (a0.Time > 1099511627776)))||(!((zdd a0.Set).getD default)))
  (.leaf false)
  (.two (zix a0.Links 0 a0) (fun v4 =>
   (.leaf v4)) (fun v5 =>
   (.bind (zb7 v5.Queue v5) fun v6 =>
   (.leaf (!v6.1))))))))
def zbl (a0:zb):=(zn9 a0).run
def zcl:SpecT:=zw 0 (Par.q (Par.ofLP providerL)) 1 [] zn9 default (Par.q boolP) 1 []
theorem zcz:zg Tryz.prog 40 (zcl).spec :=
 sK (A:=⟨[([0,1,0,1,1],zauy)],[],[],zv72,[]⟩) zh72 fM Tryz.func40 (c:=(fb Tryz.f40)) (by kernel_rfl) (Lc:=0) ⟨za04,trivial⟩ _ _ 4 _ _ _ _ _ _ [] (by rintro a0;kernel_rfl)
noncomputable def zy73:EnvT:=⟨Tryz.prog,zah [(40,zcl),(41,zsh)]⟩
theorem zh73:(zy73).Ok:=zf ⟨zcz,zyz,trivial⟩
def ziy (a0:zb) (a1 a2 a3:Int): Tr (zb×Int) :=
 (.bind (zbl a0) fun v1 =>
 (.ite (!v1)
  (.leaf (a0,2))
  (.bind (zkp a0.Stake a1 a2 a3) fun v2 =>
  (.ite (v2.2 != 0)
   (.leaf (a0,v2.2))
   (.leaf ({ a0 with Stake:=v2.1 },0))))))
def zhk (a0:zb) (a1 a2 a3:Int):=(ziy a0 a1 a2 a3).run
def zoa:SpecT:=zw 0 (LQ.v (Par.ofLP providerL) (LQ.v intP (LQ.v intP (Par.q intP)))) 4 [] (u4 ziy) default (LQ.v (Par.ofLP providerL) (Par.q intP)) 2 []
theorem zuz:zg Tryz.prog 30 (zoa).spec :=
 sK (A:=⟨[],[],[],[[1,2,3,4,8],[1,2,3,4,8,14],[8,9],[4,8,10,11],[4,8,10,11,26],[8,9],[4,8],[8,9]],[]⟩) zh73 fM Tryz.func30 (c:=(fb Tryz.f30)) (by kernel_rfl) (Lc:=0) trivial _ _ 5 _ _ _ _ _ _ [.pubB 8] (by rintro ⟨a0,a1,a2,a3⟩;kernel_rfl)
def zv74:List (List Nat):=[[1,2,3,4,5,10],[1,2,3,4,5,10,27],[10,11],[1,2,3,5,10,12],[1,2,3,5,10,12,35],[1,2,3,5,10,12,35,36],[1,2,3,5,10,12,13,35],[1,2,3,5,10,12,13,35,42],[1,2,3,5,10,12,35],[1,2,3,5,10,12,35],[5,10,14,15],[5,10,14,15,61],[10,11],[5,10],[5,10,66],[5,10,66,67],[5,10,16,66],[5,10,66],[5,10,66],[10,11]]
noncomputable def zy74:EnvT:=⟨Tryz.prog,zah [(40,zcl),(42,zpa)]⟩
theorem zh74:(zy74).Ok:=zf ⟨zcz,zwi,trivial⟩
def za4 (x0 x1 x2 x3:Int) (x4 x5:zb) (x6:Wait): Tr ((Int×Int×Int×Int×zb×zb×Wait)⊕(Int×Int×Int×zb×zb×Wait)) :=
 (.ite (decide (x3 < 2))
  (.guard ((0:Int)≤x3∧(x3:Int) < 2)
  (.ite (x4.Links.On.get x3)
   (.guard ((0:Int)≤x3∧(x3:Int) < 2)
   (.leaf (.inl (x0,x1,x2,i64.wrap (x3+1),x4,x5,{ (x6:Wait) with h0:=if x3=0 then i64.wrap (x4.Height+1) else x6.h0,h1:=if x3=1 then i64.wrap (x4.Height+1) else x6.h1 }))))
   (.leaf (.inl (x0,x1,x2,i64.wrap (x3+1),x4,x5,x6)))))
  (.leaf (.inr (x0,x1,x2,x4,x5,x6))))
def zd9 (x0 x1 x2 x3:Int) (x4 x5:zb) (x6:Wait):=zdm (fun s:Int×Int×Int×Int×zb×zb×Wait=>(za4 s.1 s.2.1 s.2.2.1 s.2.2.2.1 s.2.2.2.2.1 s.2.2.2.2.2.1 s.2.2.2.2.2.2).run) (x0,x1,x2,x3,x4,x5,x6)
def za08:Ann:=⟨[],[],[],zv74,[]⟩
def za09:=EndD.mk (LQ.v intP (LQ.v intP (LQ.v intP (LQ.kp 0 0 (LQ.kp 1 0 (LQ.kp 2 0 (LQ.v intP (LQ.seq (LP.q providerL) (LQ.seq (LP.q providerL) (LP.q zapn)))))))))) ⟨[1,2,3,5,10,12,35],[]⟩ [.cells 58 97,.cells 58 97,.cells 78 8]
def zarg:=EndD.mk (LQ.v intP (LQ.v intP (LQ.v intP (LQ.kp 0 0 (LQ.kp 1 0 (LQ.kp 2 0 (LQ.seq (LP.q providerL) (LQ.seq (LP.q providerL) (LP.q zapn))))))))) ⟨[1,2,3,5,10,12],[]⟩ [.cells 58 97,.cells 58 97,.cells 78 8]
def zauz:St→Option LR:=L1 87 6 0 za09 (.exit 0) zarg (u7 za4)
def zs74a:=sub (fb Tryz.f31) [0,1,0,1,1,1]
theorem za1a:zt (zy74).env 0 zs74a zauz :=
 zht (A:=za08) zh74 fM trivial (k:=zcd zs74a) (by kernel_rfl) rfl (by rintro ⟨x0,x1,x2,x3,x4,x5,x6⟩;kernel_rfl)
def za5 (x0:Int) (x1 x2:zb): Tr ((Int×zb×zb)⊕(zb×zb)) :=
 (.ite (decide (x0 < 2))
  (.guard ((0:Int)≤x0∧(x0:Int) < 2)
  (.guard (((x1.Links.Fresh.get x0)=false→((0:Int)≤x0∧(x0:Int) < 2)∧True))
  (.guard ((0:Int)≤x0∧(x0:Int) < 2)
  (.leaf (.inl (i64.wrap (x0+1),{ x1 with Links:={ x1.Links with Fresh:=(x1.Links.Fresh.set x0 ((x1.Links.Fresh.get x0)||(x1.Links.On.get x0))) } },x2))))))
  (.leaf (.inr (x1,x2))))
def zia (x0:Int) (x1 x2:zb):=zdm (fun s:Int×zb×zb=>(za5 s.1 s.2.1 s.2.2).run) (x0,x1,x2)
def za1b:Ann:=⟨[],[],[],zv74,[]⟩
def za1c:=EndD.mk (LQ.kp 0 0 (LQ.kp 1 0 (LQ.v intP (LQ.seq (LP.q providerL) (LP.q providerL))))) ⟨[5,10,66],[]⟩ [.cells 58 97,.cells 58 97]
def zarh:=EndD.mk (LQ.kp 0 0 (LQ.kp 1 0 (LQ.seq (LP.q providerL) (LP.q providerL)))) ⟨[5,10],[]⟩ [.cells 58 97,.cells 58 97]
def zau0:St→Option LR:=L1 87 6 0 za1c (.exit 2) zarh (u3 za5)
def zs74b:=sub (fb Tryz.f31) [0,1,0,1,1,1,1,1,1,1]
theorem za1d:zt (zy74).env 0 zs74b zau0 :=
 zht (A:=za1b) zh74 fM trivial (k:=zcd zs74b) (by kernel_rfl) rfl (by rintro ⟨x0,x1,x2⟩;kernel_rfl)
def zgo (a0:zb) (a1 a2 a3 a4:Int): Tr (zb×Int) :=
 (.bind (zbl a0) fun v1 =>
 (.ite (((!v1)||(decide (a4 < 0)))||(decide (a4 > 1099511627776)))
  (.leaf (a0,2))
  (.bind (zd9 a1 a2 a3 0 a0 (default:zb) (⟨0,0,0,0,i64.wrap (a0.Height+1),i64.wrap (a4+20),0,0⟩:Wait)) fun v2 =>
  (.bind (ziu v2.2.2.2.1.Stake v2.1 v2.2.1 v2.2.2.1 v2.2.2.2.2.2) fun v3 =>
  (.ite (v3.2 != 0)
   (.leaf (v2.2.2.2.1,v3.2))
   (.bind (zia 0 ({ v2.2.2.2.1 with Stake:=v3.1 }) v2.2.2.2.2.1) fun v4 =>
   (.leaf (v4.1,0))))))))
def zbe (a0:zb) (a1 a2 a3 a4:Int):=(zgo a0 a1 a2 a3 a4).run
def zls:SpecT:=zw 0 (LQ.v (Par.ofLP providerL) (LQ.v intP (LQ.v intP (LQ.v intP (Par.q intP))))) 5 [] (u5 zgo) default (LQ.v (Par.ofLP providerL) (Par.q intP)) 2 []
theorem zss:zg Tryz.prog 31 (zls).spec :=
 sK (A:=⟨[([0,1,0,1,1,1],zauz),([0,1,0,1,1,1,1,1,1,1],zau0)],[],[],zv74,[]⟩) zh74 fM Tryz.func31 (c:=(fb Tryz.f31)) (by kernel_rfl) (Lc:=0) ⟨za1a,za1d,trivial⟩ _ _ 6 _ _ _ _ _ _ [.pubB 10] (by rintro ⟨a0,a1,a2,a3,a4⟩;kernel_rfl)
def zv75:List (List Nat):=[[1,2,4],[1,2,4,8],[4,5],[1,2,4,13],[4,5],[1,2,4,21],[4,5],[1,2,4,28],[4,5],[1,2,4,35],[4,5],[1,2,4],[1,2,4],[1,2,4,64,65],[1,2,4,64,65,66],[1,2,4,6,64,65],[1,2,4,7,64,65],[1,2,4,7,64,65,79],[1,2,4,64,65],[1,2,4,64,65],[1,2,4,64,65],[4,5]]
noncomputable def zy75:EnvT:=⟨Tryz.prog,zah [(40,zcl),(73,zdr),(64,zbt)]⟩
theorem zh75:(zy75).Ok:=zf ⟨zcz,zgj,zct,trivial⟩
def zde (x0 x1 x2:Int) (x3 x4:zb): Tr ((Int×Int×Int×zb×zb)⊕(zb×zb)) :=
 (.ite (decide (x2 < x1))
  (.guard ((0:Int)≤x2∧x2 < ((Sl.len (.waits x3.Stake.Waits):Nat):Int))
  (.ite (decide (((x3.Stake.Waits.getD x2.toNat default).Height) > x3.Height))
   (.guard ((0:Int)≤x0∧(x0:Int) < 2)
   (.guard ((0:Int)≤x0∧(x0:Int) < 2)
   (.leaf (.inl (x0,x1,i64.wrap (x2+1),{ x3 with Stake:={ x3.Stake with Waits:=x3.Stake.Waits.set x2.toNat ({ ((x3.Stake.Waits.getD x2.toNat default):Wait) with h0:=if x0=0 then (x3.Stake.Waits.getD x2.toNat default).Height else (x3.Stake.Waits.getD x2.toNat default).h0,h1:=if x0=1 then (x3.Stake.Waits.getD x2.toNat default).Height else (x3.Stake.Waits.getD x2.toNat default).h1 }) },Links:={ x3.Links with Fresh:=(x3.Links.Fresh.set x0 true) } },x4)))))
   (.leaf (.inl (x0,x1,i64.wrap (x2+1),x3,x4)))))
  (.leaf (.inr (x3,x4))))
def zhl (x0 x1 x2:Int) (x3 x4:zb):=zdm (fun s:Int×Int×Int×zb×zb=>(zde s.1 s.2.1 s.2.2.1 s.2.2.2.1 s.2.2.2.2).run) (x0,x1,x2,x3,x4)
def za1e:Ann:=⟨[],[],[],zv75,[]⟩
def za1f:=EndD.mk (LQ.map (LQ.v intP (LQ.kp 0 0 (LQ.kp 1 0 (LQ.v intP (LQ.v intP (LQ.v intP (LQ.v intP (LQ.seq (LP.q bankL) (LQ.seq (LP.q validatorsL) (LQ.seq (LP.q (a4L (a6L (LP.one intP)))) (LQ.k (LQ.c (.own 2)) (LQ.v intP (LQ.v zp (LQ.seq (LP.q linksL) (LQ.seq (LP.q meterL) (LQ.v zel (LQ.seq (LP.q providerL) (Par.q zli)))))))))))))))))) (fun x=>(x.1,x.2.1,x.2.2.1,(⟨x.2.2.2.1,(d4 x).1,(⟨(d4 x).2.1,(d4 x).2.2.1,(d4 x).2.2.2.1,(d12 x).2.2,(d8 x).1⟩:Stake),(d8 x).2.1,(d8 x).2.2.1,(d8 x).2.2.2.1,(d12 x).1⟩:zb),(d12 x).2.1)) (fun y=>(y.1,y.2.1,y.2.2.1,y.2.2.2.1.Height,y.2.2.2.1.Time,y.2.2.2.1.Stake.Bank,y.2.2.2.1.Stake.Validators,y.2.2.2.1.Stake.Shares,y.2.2.2.1.Stake.Next,y.2.2.2.1.Set,y.2.2.2.1.Links,y.2.2.2.1.Meter,y.2.2.2.1.Queue,(d4 y),y.2.2.2.1.Stake.Waits)) (fun _=>rfl)) ⟨[1,2,4,64,65],[.nilcell 2 63 78 (.waits [])]⟩ [.cells 58 97,.cells 58 97,.rows 78]
def zari:=EndD.mk (LQ.map (LQ.kp 0 0 (LQ.kp 1 0 (LQ.v intP (LQ.v intP (LQ.seq (LP.q bankL) (LQ.seq (LP.q validatorsL) (LQ.seq (LP.q (a4L (a6L (LP.one intP)))) (LQ.k (LQ.c (.own 2)) (LQ.v intP (LQ.v zp (LQ.seq (LP.q linksL) (LQ.seq (LP.q meterL) (LQ.v zel (LQ.seq (LP.q providerL) (Par.q zli))))))))))))))) (fun x=>((⟨x.1,x.2.1,(⟨x.2.2.1,x.2.2.2.1,(d4 x).1,(d8 x).2.2.2,(d4 x).2.1⟩:Stake),(d4 x).2.2.1,(d4 x).2.2.2.1,(d8 x).1,(d8 x).2.1⟩:zb),(d8 x).2.2.1)) (fun y=>(y.1.Height,y.1.Time,y.1.Stake.Bank,y.1.Stake.Validators,y.1.Stake.Shares,y.1.Stake.Next,y.1.Set,y.1.Links,y.1.Meter,y.1.Queue,y.2,y.1.Stake.Waits)) (fun _=>rfl)) ⟨[2,4],[.nilcell 2 63 78 (.waits [])]⟩ [.cells 58 97,.cells 58 97,.rows 78]
def zau1:St→Option LR:=L1 95 5 0 za1f (.exit 1) zari (u5 zde)
def zs75a:=sub (fb Tryz.f47) [0,1,0,1,1,1,1]
theorem za1g:zt (zy75).env 0 zs75a zau1 :=
 zht (A:=za1e) zh75 fM trivial (k:=zcd zs75a) (by kernel_rfl) rfl (by rintro ⟨x0,x1,x2,x3,x4⟩;kernel_rfl)
def zmc (a0:zb) (a1:Int): Tr (zb×Int) :=
 (.bind (zbl a0) fun v1 =>
 (.ite (!v1)
  (.leaf (a0,2))
  (.ite ((decide (a1 < 0))||(decide (a1≥2)))
   (.leaf (a0,4))
   (.guard ((0:Int)≤a1∧(a1:Int) < 2)
   (.ite (a0.Links.Gone.get a1)
    (.leaf (a0,11))
    (.guard ((0:Int)≤a1∧(a1:Int) < 2)
    (.ite (a0.Links.On.get a1)
     (.leaf (a0,5))
     (.ite ((decide (a0.Height < 1))||(((a0.Set.length:Nat):Int)==0))
      (.leaf (a0,13))
      (.guard ((zam a0.Set).isSome=true)
      (.guard ((0:Int)≤a1∧(a1:Int) < 2)
      (.bind (zv a0.Stake.Waits) fun v2 =>
      (.bind (zhl a1 ((v2.length:Nat):Int) 0 ({ a0 with Stake:={ a0.Stake with Waits:=v2 },Links:=(⟨(a0.Links.On.set a1 true),(a0.Links.Gone.set a1 false),(a0.Links.Base.set a1 a0.Height),(a0.Links.Told.set a1 ((zam a0.Set).getD default)),(a0.Links.Fresh.set a1 false),(a0.Links.Done.set a1 []),(a0.Links.Said.set a1 []),(a0.Links.Due.set a1 []),(a0.Links.Got.set a1 0),(a0.Links.Closed.set a1 false),(a0.Links.SHeight.set a1 0),(a0.Links.STime.set a1 0),(a0.Links.SSaid.set a1 0),(a0.Links.SGot.set a1 0)⟩:Links) }) (default:zb)) fun v3 =>
      (.leaf (v3.1,0))))))))))))))
def zan (a0:zb) (a1:Int):=(zmc a0 a1).run
def zsl:SpecT:=zw 0 (LQ.v (Par.ofLP providerL) (Par.q intP)) 2 [] (u2 zmc) default (LQ.v (Par.ofLP providerL) (Par.q intP)) 2 []
theorem zy1:zg Tryz.prog 47 (zsl).spec :=
 sK (A:=⟨[([0,1,0,1,1,1,1],zau1)],[],[],zv75,[]⟩) zh75 fM Tryz.func47 (c:=(fb Tryz.f47)) (by kernel_rfl) (Lc:=0) ⟨za1g,trivial⟩ _ _ 5 _ _ _ _ _ _ [.pubB 4] (by rintro ⟨a0,a1⟩;kernel_rfl)
def ziz (a0:Asked) (a1:Int): Tr (Bool×Int) :=
 (.leaf (a0.C==a1,a1))
def zei (a0:Asked) (a1:Int):=(ziz a0 a1).run
def zi0:SpecT:=zw 1 (LQ.v (Par.ofLP zahm) (LQ.kp 0 0 (Par.q intP))) 2 [.cells 3 1] (u2 ziz) default (LQ.v boolP (Par.q intP)) 1 [.cells 3 1]
theorem zmo:zg Tryz.prog 121 (zi0).spec :=
 sK (A:=⟨[],[],[],[[1,2],[3]],[]⟩) zhN fM Tryz.func121 (c:=(fb Tryz.f121)) (by kernel_rfl) (Lc:=1) trivial _ _ 4 _ _ _ _ _ _ [] (by rintro ⟨a0,a1⟩;kernel_rfl)
def zv77:List (List Nat):=[[0,1],[0,1,7,8],[0,1,7,8,9],[0,1,5,7,8],[0,1,5,7,8,16],[4],[0,1,7,8],[4]]
noncomputable def zy77:EnvT:=⟨Tryz.prog,zah [(121,zi0)]⟩
theorem zh77:(zy77).Ok:=zf ⟨zmo,trivial⟩
def zaf (x0 x1 x2:Int) (x3:(List Asked)): Tr ((Int×Int×Int×(List Asked))⊕((Int×Int×(List Asked))⊕(Int×(List Asked)))) :=
 (.ite (decide (x1 < x0))
  (.guard ((0:Int)≤x1∧x1 < ((Sl.len (.asked x3):Nat):Int))
  (.bind (zei (x3.getD x1.toNat default) x2) fun v1 =>
  (.ite (v1.1)
   (.leaf (.inr (.inl (x1,v1.2,x3))))
   (.leaf (.inl (x0,i64.wrap (x1+1),v1.2,x3))))))
  (.leaf (.inr (.inr (x2,x3)))))
def zbs (x0 x1 x2:Int) (x3:(List Asked)):=zdm (fun s:Int×Int×Int×(List Asked)=>(zaf s.1 s.2.1 s.2.2.1 s.2.2.2).run) (x0,x1,x2,x3)
def za1h:Ann:=⟨[],[],[],zv77,[]⟩
def za1i:=EndD.mk (LQ.k (LQ.c (.own 1)) (LQ.k (LQ.c (.fn 121 [.ptr 0 0])) (LQ.v intP (LQ.v intP (LQ.v intP (Par.q zel)))))) ⟨[0,1,7,8],[.nilown 0 90 (.asked [])]⟩ [.cells 3 1,.rows 90]
def zarj:=EndD.mk (LQ.v intP (LQ.v intP (Par.q zel))) ⟨[4],[]⟩ [.cells 3 1,.rows 90]
def zark:=EndD.mk (LQ.v intP (Par.q zel)) ⟨[],[]⟩ [.cells 3 1,.rows 90]
def zau2:St→Option LR:=L2 19 4 2 za1i .ret zarj (.exit 0) zark (u4 zaf)
def zs77a:=sub (fb Tryz.f92) [0,1,0,1]
theorem za1j:zt (zy77).env 2 zs77a zau2 :=
 znl (A:=za1h) zh77 fM trivial (k:=zcd zs77a) (by kernel_rfl) rfl rfl (by rintro ⟨x0,x1,x2,x3⟩;kernel_rfl)
def zcm (a0:Int) (a1:(List Asked)): Tr (Int×Int×(List Asked)) :=
 (.two (zbs ((a1.length:Nat):Int) 0 a0 a1) (fun v2 =>
  (.leaf (v2.1,v2.2.1,v2.2.2))) (fun v3 =>
  (.leaf (-1,v3.1,v3.2))))
def za9 (a0:Int) (a1:(List Asked)):=(zcm a0 a1).run
def ze5:SpecT:=zw 2 (LQ.k (LQ.c (.own 1)) (LQ.k (LQ.c (.fn 121 [.ptr 0 0])) (LQ.v intP (Par.q zel)))) 2 [.cells 3 1,.rows 90] (u2 zcm) default (LQ.v intP (LQ.v intP (Par.q zel))) 1 [.cells 3 1,.rows 90]
theorem zky:zg Tryz.prog 92 (ze5).spec :=
 sK (A:=⟨[([0,1,0,1],zau2)],[],[],zv77,[]⟩) zh77 fM Tryz.func92 (c:=(fb Tryz.f92)) (by kernel_rfl) (Lc:=2) ⟨za1j,trivial⟩ _ _ 4 _ _ _ _ _ _ [] (by rintro ⟨a0,a1⟩;kernel_rfl)
def zv78:List (List Nat):=[[0,1],[0,1,5],[0,1,5,12],[4],[0,1,5,6],[0,1,5,6,19],[0,1,5,6],[0,1,5,6,7],[0,1,5,6,7,29],[0,1,5,6],[0,1,5,6],[0,5],[4]]
noncomputable def zy78:EnvT:=⟨Tryz.prog,zah [(92,ze5),(121,zi0)]⟩
theorem zh78:(zy78).Ok:=zf ⟨zky,zmo,trivial⟩
def zau3:St→Option LR:=clearL 0 5 36 37 38
def zs78A:=sub (fb Tryz.f120) [0,1,1,1,1]
theorem za1l:zt (zy78).env 1 zs78A zau3 :=
 zalu (T:=56) (E:=90) (z:=(zk Tryz.prog (zeroValue 90)).getD undef) (by kernel_rfl) (by kernel_rfl) (by kernel_rfl) (by kernel_rfl) (by decide) (by decide) (by kernel_rfl) (by kernel_rfl) (by kernel_rfl) (by kernel_rfl)
def zak (x0 x1 x2:Int) (x3:(List Asked)): Tr ((Int×Int×Int×(List Asked))⊕(Int×Int×(List Asked))) :=
 (.ite (decide (x1 < ((x3.length:Nat):Int)))
  (.guard ((0:Int)≤x1∧x1 < ((Sl.len (.asked x3):Nat):Int))
  (.bind (zei (x3.getD x1.toNat default) x2) fun v2 =>
  (.ite (!v2.1)
   (.guard ((0:Int)≤x0∧x0 < ((Sl.len (.asked x3):Nat):Int))
   (.leaf (.inl (i64.wrap (x0+1),i64.wrap (x1+1),v2.2,x3.set x0.toNat (x3.getD x1.toNat default)))))
   (.leaf (.inl (x0,i64.wrap (x1+1),v2.2,x3))))))
  (.leaf (.inr (x0,x2,x3))))
def zbx (x0 x1 x2:Int) (x3:(List Asked)):=zdm (fun s:Int×Int×Int×(List Asked)=>(zak s.1 s.2.1 s.2.2.1 s.2.2.2).run) (x0,x1,x2,x3)
def za1m:Ann:=⟨[],[],[],zv78,[]⟩
def za1n:=EndD.mk (LQ.k (LQ.c (.own 1)) (LQ.k (LQ.c (.fn 121 [.ptr 0 0])) (LQ.v intP (LQ.v intP (LQ.v intP (Par.q zel)))))) ⟨[0,1,5,6],[.nilown 0 90 (.asked [])]⟩ [.cells 3 1,.rows 90]
def zarl:=EndD.mk (LQ.k (LQ.c (.own 1)) (LQ.v intP (LQ.v intP (Par.q zel)))) ⟨[0,5],[.nilown 0 90 (.asked [])]⟩ [.cells 3 1,.rows 90]
def zau4:St→Option LR:=L1 42 5 1 za1n (.exit 0) zarl (u4 zak)
def zs78a:=sub (fb Tryz.f120) [0,1,0,1,1,1]
theorem za1o:zt (zy78).env 1 zs78a zau4 :=
 zht (A:=za1m) zh78 fM trivial (k:=zcd zs78a) (by kernel_rfl) rfl (by rintro ⟨x0,x1,x2,x3⟩;kernel_rfl)
def zc0 (a0:Int) (a1:(List Asked)): Tr (Int×(List Asked)) :=
 (.bind (za9 a0 a1) fun v1 =>
 (.ite (v1.1==(-1))
  (.leaf (v1.2.1,v1.2.2))
  (.bind (zbx v1.1 (i64.wrap (v1.1+1)) v1.2.1 v1.2.2) fun v3 =>
  (.bind (z8e v3.2.2 v3.1) fun v4 =>
  (.guard ((0:Int)≤v3.1∧v3.1≤((Sl.len (.asked v4):Nat):Int))
  (.leaf (v3.2.1,((v4.drop 0).take (v3.1.toNat - 0)))))))))
def zcn (a0:Int) (a1:(List Asked)):=(zc0 a0 a1).run
def zfu:SpecT:=zw 1 (LQ.k (LQ.c (.own 1)) (LQ.k (LQ.c (.fn 121 [.ptr 0 0])) (LQ.v intP (Par.q zel)))) 2 [.cells 3 1,.rows 90] (u2 zc0) default (LQ.k (LQ.c (.own 1)) (LQ.v intP (Par.q zel))) 1 [.cells 3 1,.rows 90]
theorem zlt:zg Tryz.prog 120 (zfu).spec :=
 sK (A:=⟨[([0,1,0,1,1,1],zau4),([0,1,1,1,1],zau3)],[],[],zv78,[]⟩) zh78 fM Tryz.func120 (c:=(fb Tryz.f120)) (by kernel_rfl) (Lc:=1) ⟨za1o,za1l,trivial⟩ _ _ 5 _ _ _ _ _ _ [.nilown 4 90 (.asked [])] (by rintro ⟨a0,a1⟩;kernel_rfl)
noncomputable def zy79:EnvT:=⟨Tryz.prog,zah [(40,zcl),(101,znx),(118,zeo),(120,zfu)]⟩
theorem zh79:(zy79).Ok:=zf ⟨zcz,zsi,zhz,zlt,trivial⟩
def zkz (a0:zb) (a1:Int): Tr (zb) :=
 (.bind (zbl a0) fun v1 =>
 (.guard (((((!v1)||(decide (a1 < 0)))||(decide (a1≥2)))=false→((0:Int)≤a1∧(a1:Int) < 2)∧True))
 (.ite ((((!v1)||(decide (a1 < 0)))||(decide (a1≥2)))||(!(a0.Links.On.get a1)))
  (.leaf a0)
  (.guard ((0:Int)≤a1∧(a1:Int) < 2)
  (.guard ((0:Int)≤a1∧(a1:Int) < 2)
  (.guard ((0:Int)≤a1∧(a1:Int) < 2)
  (.guard ((0:Int)≤a1∧(a1:Int) < 2)
  (.guard ((0:Int)≤a1∧(a1:Int) < 2)
  (.bind (zfp a0.Stake a1 1099511627776) fun v2 =>
  (.bind (zaw a0.Queue) fun v3 =>
  (.bind (zcn a1 v3) fun v4 =>
  (.leaf ({ a0 with Stake:=v2,Links:={ a0.Links with On:=(a0.Links.On.set a1 false),Gone:=(a0.Links.Gone.set a1 true),Fresh:=(a0.Links.Fresh.set a1 false),Done:=(a0.Links.Done.set a1 []),Closed:=(a0.Links.Closed.set a1 true) },Queue:=v4.2 })))))))))))))
def zcx (a0:zb) (a1:Int):=(zkz a0 a1).run
def zqu:SpecT:=zw 0 (LQ.v (Par.ofLP providerL) (Par.q intP)) 2 [] (u2 zkz) default (Par.q (Par.ofLP providerL)) 1 []
theorem zx4:zg Tryz.prog 83 (zqu).spec :=
 sK (A:=⟨[],[],[],[[2,3,4],[2,3,4,23],[4],[2,3,4],[2,3,4],[2,3,4],[2,4],[4]],[]⟩) zh79 fM Tryz.func83 (c:=(fb Tryz.f83)) (by kernel_rfl) (Lc:=0) trivial _ _ 7 _ _ _ _ _ _ [.pubB 4] (by rintro ⟨a0,a1⟩;kernel_rfl)
noncomputable def zy80:EnvT:=⟨Tryz.prog,zah [(14,zpw),(40,zcl),(118,zeo)]⟩
theorem zh80:(zy80).Ok:=zf ⟨ztg,zcz,zhz,trivial⟩
def zob (a0:zb) (a1:Int) (a2:ByteArray): Tr (zb×Int) :=
 (.bind (zet a2) fun v1 =>
 (.bind (zbl a0) fun v2 =>
 (.ite (!v2)
  (.leaf (a0,2))
  (.guard ((((decide (a1 < 0))||(decide (a1≥2)))=false→((0:Int)≤a1∧(a1:Int) < 2)∧True))
  (.ite (((decide (a1 < 0))||(decide (a1≥2)))||(!(a0.Links.On.get a1)))
   (.leaf (a0,4))
   (.ite (v1.2 != 0)
    (.leaf (a0,v1.2))
    (.ite (v1.1.Kind==1)
     (.leaf (a0,3))
     (.guard ((zaw a0.Queue).isSome=true)
     (.guard ((Sl.len (.asked ((zaw a0.Queue).getD default))+Sl.len (.asked [(⟨a1,v1.1⟩:Asked)]))*88≤140737488355328)
     (.leaf ({ a0 with Queue:=((zaw a0.Queue).getD default)++[(⟨a1,v1.1⟩:Asked)] },0)))))))))))
def za7 (a0:zb) (a1:Int) (a2:ByteArray):=(zob a0 a1 a2).run
def zts:SpecT:=zw 0 (LQ.v (Par.ofLP providerL) (LQ.v intP (Par.q strP))) 3 [] (u3 zob) default (LQ.v (Par.ofLP providerL) (Par.q intP)) 2 []
theorem z0i:zg Tryz.prog 80 (zts).spec :=
 sK (A:=⟨[],[],[],[[1,2,3,6],[1,3,6,8,9],[1,3,6,8,9,15],[6,7],[1,3,6,8,9,20],[6,7],[1,3,6,8,9,36],[6,7],[1,3,6,8,41],[6,7],[3,6],[6,7]],[]⟩) zh80 fM Tryz.func80 (c:=(fb Tryz.f80)) (by kernel_rfl) (Lc:=0) trivial _ _ 8 _ _ _ _ _ _ [.pubB 6] (by rintro ⟨a0,a1,a2⟩;kernel_rfl)
noncomputable def zy81:EnvT:=⟨Tryz.prog,zah [(40,zcl),(44,zry),(45,ztl)]⟩
theorem zh81:(zy81).Ok:=zf ⟨zcz,zve,zxx,trivial⟩
def zi1 (a0:zb) (a1 a2:Int): Tr (zb×Int) :=
 (.bind (zbl a0) fun v1 =>
 (.ite (!v1)
  (.leaf (a0,2))
  (.ite ((decide (a1 < 0))||(decide (a1≥6)))
   (.leaf (a0,4))
   (.ite ((decide (a2 < 1))||(decide (a2 > a0.Height)))
    (.leaf (a0,2))
    (.guard ((0:Int)≤a1∧(a1:Int) < 6)
    (.ite (a0.Stake.Validators.Dead.get a1)
     (.leaf (a0,15))
     (.bind (zf1 a0.Stake a1 a2 50) fun v2 =>
     (.ite (v2.2.2 != 0)
      (.leaf (a0,v2.2.2))
      (.bind (zjw v2.1 a1) fun v3 =>
      (.ite (v3.2 != 0)
       (.leaf (a0,v3.2))
       (.leaf ({ a0 with Stake:=v3.1 },0))))))))))))
def zhm (a0:zb) (a1 a2:Int):=(zi1 a0 a1 a2).run
def zoc:SpecT:=zw 0 (LQ.v (Par.ofLP providerL) (LQ.v intP (Par.q intP))) 3 [] (u3 zi1) default (LQ.v (Par.ofLP providerL) (Par.q intP)) 2 []
theorem zu0:zg Tryz.prog 33 (zoc).spec :=
 sK (A:=⟨[],[],[],[[1,2,3,6],[1,2,3,6,11],[6,7],[1,2,3,6,16],[6,7],[1,2,3,6,24],[6,7],[1,2,3,6,34],[6,7],[1,3,6,8,10],[1,3,6,8,10,52],[6,7],[3,6,8,10],[3,6,8,10,62],[6,7],[3,6],[6,7]],[]⟩) zh81 fM Tryz.func33 (c:=(fb Tryz.f33)) (by kernel_rfl) (Lc:=0) trivial _ _ 5 _ _ _ _ _ _ [.pubB 6] (by rintro ⟨a0,a1,a2⟩;kernel_rfl)
noncomputable def zy82:EnvT:=⟨Tryz.prog,zah [(112,zz0),(113,zld),(114,zyy),(73,zdr)]⟩
theorem zh82:(zy82).Ok:=zf ⟨z62,znv,z1y,zgj,trivial⟩
def zod (a0 a1:Int) (a2:zb): Tr (zb) :=
 (.guard ((0:Int)≤a0∧(a0:Int) < 2)
 (.guard ((zd1 (a2.Links.Told.get a0) a2.Set).isSome=true)
 (.ite ((!(a2.Links.On.get a0))||(((((((zd1 (a2.Links.Told.get a0) a2.Set).getD default).length:Nat):Int)==0)&&(!(a2.Links.Fresh.get a0)))&&((((a2.Links.Done.get a0).length:Nat):Int)==0)))
  (.leaf a2)
  (.guard ((zbf (⟨1,a2.Height,0,0,((zd1 (a2.Links.Told.get a0) a2.Set).getD default),a2.Links.Done.get a0⟩:Packet)).isSome=true)
  (.ite ((((zbf (⟨1,a2.Height,0,0,((zd1 (a2.Links.Told.get a0) a2.Set).getD default),a2.Links.Done.get a0⟩:Packet)).getD default).2) != 0)
   (.leaf a2)
   (.bind (zrt (⟨a2.Links.Said.get a0,a2.Links.Due.get a0,a2.Links.Got.get a0,a2.Links.Closed.get a0⟩:zi6) (((zbf (⟨1,a2.Height,0,0,((zd1 (a2.Links.Told.get a0) a2.Set).getD default),a2.Links.Done.get a0⟩:Packet)).getD default).1) (i64.wrap (a1+40))) fun v1 =>
   (.ite (v1.2 != 0)
    (.leaf a2)
    (.guard ((zam a2.Set).isSome=true)
    (.leaf ({ a2 with Links:={ a2.Links with Told:=(a2.Links.Told.set a0 ((zam a2.Set).getD default)),Fresh:=(a2.Links.Fresh.set a0 false),Done:=(a2.Links.Done.set a0 []),Said:=(a2.Links.Said.set a0 v1.1.Said),Due:=(a2.Links.Due.set a0 v1.1.Due),Got:=(a2.Links.Got.set a0 v1.1.Got),Closed:=(a2.Links.Closed.set a0 v1.1.Closed) } }))))))))))
def zil (a0 a1:Int) (a2:zb):=(zod a0 a1 a2).run
def ztt:SpecT:=zw 1 (LQ.kp 0 0 (LQ.v intP (LQ.v intP (LP.q providerL)))) 3 [.cells 58 97] (u3 zod) default (LP.q providerL) 0 [.cells 58 97]
theorem z0j:zg Tryz.prog 72 (ztt).spec :=
 sK (A:=⟨[],[],[],[[0,2,6],[0,2,6,7],[0,2,6,7,49],[0,2,6,8,9],[0,2,6,8,65],[0,6,9,10],[0,6,10,78],[]],[]⟩) zh82 fM Tryz.func72 (c:=(fb Tryz.f72)) (by kernel_rfl) (Lc:=1) trivial _ _ 4 _ _ _ _ _ _ [.pubN 0] (by rintro ⟨a0,a1,a2⟩;kernel_rfl)
def zoe (a0:Int): Tr (Bool) :=
 (.leaf (a0 != a0))
def zfv (a0:Int):=(zoe a0).run
def ztu:SpecT:=zw 0 (Par.q intP) 1 [] zoe default (Par.q boolP) 1 []
theorem z0k:zg Tryz.prog 140 (ztu).spec :=
 sK (A:=⟨[],[],[],[[0],[2]],[]⟩) zhN fM Tryz.func140 (c:=(fb Tryz.f140)) (by kernel_rfl) (Lc:=0) trivial _ _ 2 _ _ _ _ _ _ [] (by rintro a0;kernel_rfl)
noncomputable def zy84:EnvT:=⟨Tryz.prog,zah [(140,ztu)]⟩
theorem zh84:(zy84).Ok:=zf ⟨z0k,trivial⟩
def zp3 (a0 a1:Int): Tr (Bool) :=
 (.bind (zfv a0) fun v1 =>
 (.guard ((v1=true→((zfv a1).isSome=true)∧True))
 (.leaf ((v1&&(!((zfv a1).getD default)))||(decide (a0 < a1))))))
def zof (a0 a1:Int):=(zp3 a0 a1).run
def zvj:SpecT:=zw 0 (LQ.v intP (Par.q intP)) 2 [] (u2 zp3) default (Par.q boolP) 1 []
theorem z2a:zg Tryz.prog 126 (zvj).spec :=
 sK (A:=⟨[],[],[],[[0,1],[4]],[]⟩) zh84 fM Tryz.func126 (c:=(fb Tryz.f126)) (by kernel_rfl) (Lc:=0) trivial _ _ 2 _ _ _ _ _ _ [] (by rintro ⟨a0,a1⟩;kernel_rfl)
def zj2 (a0:Int): Tr (Bool) :=
 (.leaf (a0 != a0))
def zbn (a0:Int):=(zj2 a0).run
def zpe:SpecT:=zw 0 (Par.q intP) 1 [] zj2 default (Par.q boolP) 1 []
theorem zwm:zg Tryz.prog 127 (zpe).spec :=
 sK (A:=⟨[],[],[],[[0],[2]],[]⟩) zhN fM Tryz.func127 (c:=(fb Tryz.f127)) (by kernel_rfl) (Lc:=0) trivial _ _ 2 _ _ _ _ _ _ [] (by rintro a0;kernel_rfl)
def zv86:List (List Nat):=[[0,1],[0,1,6],[0,1,6,7,8],[0,1,6,7,8,15],[0,1,6,7,8,9],[0,1,6,7,8,9,27],[0,1,6,7,8],[0,1,6,7,8],[4,5]]
noncomputable def zy86:EnvT:=⟨Tryz.prog,zah [(126,zvj),(127,zpe)]⟩
theorem zh86:(zy86).Ok:=zf ⟨z2a,zwm,trivial⟩
def zbq (x0:(List Int)) (x1 x2 x3 x4:Int): Tr (((List Int)×Int×Int×Int×Int)⊕((List Int)×Int×Int×Int)) :=
 (.ite (decide (x3 < x4))
  (.guard ((0:Int)≤1)
  (.guard ((0:Int)≤(i64.wrap (Int.fdiv (u64.wrap (i64.wrap (x3+x4))) (2 ^ 1)))∧(i64.wrap (Int.fdiv (u64.wrap (i64.wrap (x3+x4))) (2 ^ 1))) < ((Sl.len (.ints x0):Nat):Int))
  (.bind (zof (x0.getD ((i64.wrap (Int.fdiv (u64.wrap (i64.wrap (x3+x4))) (2 ^ 1))).toNat) 0) x1) fun v1 =>
  (.ite (v1)
   (.leaf (.inl (x0,x1,x2,i64.wrap ((i64.wrap (Int.fdiv (u64.wrap (i64.wrap (x3+x4))) (2 ^ 1)))+1),x4)))
   (.leaf (.inl (x0,x1,x2,x3,i64.wrap (Int.fdiv (u64.wrap (i64.wrap (x3+x4))) (2 ^ 1)))))))))
  (.leaf (.inr (x0,x1,x2,x3))))
def zfw (x0:(List Int)) (x1 x2 x3 x4:Int):=zdm (fun s:(List Int)×Int×Int×Int×Int=>(zbq s.1 s.2.1 s.2.2.1 s.2.2.2.1 s.2.2.2.2).run) (x0,x1,x2,x3,x4)
def za1p:Ann:=⟨[],[],[],zv86,[]⟩
def za1q:=EndD.mk (LQ.v zgh (LQ.v intP (LQ.v intP (LQ.v intP (Par.q intP))))) ⟨[0,1,6,7,8],[.pub 0,.nilsl 0 (.ints [])]⟩ []
def zarm:=EndD.mk (LQ.v zgh (LQ.v intP (LQ.v intP (Par.q intP)))) ⟨[0,1,6,7],[.pub 0,.nilsl 0 (.ints [])]⟩ []
def zau5:St→Option LR:=L1 54 2 0 za1q (.exit 0) zarm (u5 zbq)
def zs86a:=sub (fb Tryz.f104) [0,0,1,1,1]
theorem za1r:zt (zy86).env 0 zs86a zau5 :=
 zht (A:=za1p) zh86 fM trivial (k:=zcd zs86a) (by kernel_rfl) rfl (by rintro ⟨x0,x1,x2,x3,x4⟩;kernel_rfl)
def zea (a0:(List Int)) (a1:Int): Tr (Int×Bool) :=
 (.bind (zfw a0 a1 ((a0.length:Nat):Int) 0 ((a0.length:Nat):Int)) fun v2 =>
 (.guard (((decide (v2.2.2.2 < v2.2.2.1))=true→((0:Int)≤v2.2.2.2∧v2.2.2.2 < ((Sl.len (.ints v2.1):Nat):Int))∧True))
 (.guard ((((v2.1.getD v2.2.2.2.toNat 0)==v2.2.1)=false→((decide (v2.2.2.2 < v2.2.2.1))=true→((0:Int)≤v2.2.2.2∧v2.2.2.2 < ((Sl.len (.ints v2.1):Nat):Int))∧True)))
 (.guard ((((v2.1.getD v2.2.2.2.toNat 0)==v2.2.1)=false→((decide (v2.2.2.2 < v2.2.2.1))=true→((zbn (v2.1.getD v2.2.2.2.toNat 0)).isSome=true)∧True)))
 (.guard ((((zbn (v2.1.getD v2.2.2.2.toNat 0)).getD default)=true→(((v2.1.getD v2.2.2.2.toNat 0)==v2.2.1)=false→((decide (v2.2.2.2 < v2.2.2.1))=true→((zbn v2.2.1).isSome=true)∧True))))
 (.leaf (v2.2.2.2,(decide (v2.2.2.2 < v2.2.2.1))&&(((v2.1.getD v2.2.2.2.toNat 0)==v2.2.1)||(((zbn (v2.1.getD v2.2.2.2.toNat 0)).getD default)&&((zbn v2.2.1).getD default))))))))))
def zu (a0:(List Int)) (a1:Int):=(zea a0 a1).run
def zib:SpecT:=zw 0 (LQ.v zgh (Par.q intP)) 2 [] (u2 zea) default (LQ.v intP (Par.q boolP)) 2 []
theorem zow:zg Tryz.prog 104 (zib).spec :=
 sK (A:=⟨[([0,0,1,1,1],zau5)],[],[],zv86,[]⟩) zh86 fM Tryz.func104 (c:=(fb Tryz.f104)) (by kernel_rfl) (Lc:=0) ⟨za1r,trivial⟩ _ _ 2 _ _ _ _ _ _ [] (by rintro ⟨a0,a1⟩;kernel_rfl)
noncomputable def zy87:EnvT:=⟨Tryz.prog,zah [(101,znx),(102,zzy),(103,zzz),(104,zib),(106,zjo),(105,F_slices_Insert_int),(44,zry),(45,ztl)]⟩
theorem zh87:(zy87).Ok:=zf ⟨zsi,z60,z61,zow,zns,zuy,zve,zxx,trivial⟩
def zog (a0:Asked) (a1:zb): Tr (Bool×zb) :=
 (.guard ((0:Int)≤a0.P.V∧(a0.P.V:Int) < 6)
 (.guard ((0:Int)≤a0.C∧(a0.C:Int) < 2)
 (.ite (a0.P.Kind==2)
  (.guard ((zfp a1.Stake a0.C a0.P.Id).isSome=true)
  (.leaf (true,{ a1 with Stake:=((zfp a1.Stake a0.C a0.P.Id).getD default) })))
  (.ite (a0.P.Kind==3)
   (.ite (!(a1.Stake.Validators.Jailed.get a0.P.V))
    (.guard ((100:Int)≠0)
    (.guard ((zg1 a1.Meter (if (i64.wrap (Int.tdiv (a1.Stake.Validators.Tokens.get a0.P.V) 100)) > 1 then (i64.wrap (Int.tdiv (a1.Stake.Validators.Tokens.get a0.P.V) 100)) else 1)).isSome=true)
    (.ite (!(((zg1 a1.Meter (if (i64.wrap (Int.tdiv (a1.Stake.Validators.Tokens.get a0.P.V) 100)) > 1 then (i64.wrap (Int.tdiv (a1.Stake.Validators.Tokens.get a0.P.V) 100)) else 1)).getD default).2))
     (.leaf (false,a1))
     (.guard ((zjv a1.Stake a0.P.V).isSome=true)
     (.guard ((zu (a1.Links.Done.get a0.C) a0.P.V).isSome=true)
     (.ite (!(((zu (a1.Links.Done.get a0.C) a0.P.V).getD default).2))
      (.guard ((z9 (a1.Links.Done.get a0.C)).isSome=true)
      (.guard ((zbz ((z9 (a1.Links.Done.get a0.C)).getD default) (((zu (a1.Links.Done.get a0.C) a0.P.V).getD default).1) [a0.P.V]).isSome=true)
      (.leaf (true,{ a1 with Stake:=(((zjv a1.Stake a0.P.V).getD default).1),Links:={ a1.Links with Done:=(a1.Links.Done.set a0.C ((zbz ((z9 (a1.Links.Done.get a0.C)).getD default) (((zu (a1.Links.Done.get a0.C) a0.P.V).getD default).1) [a0.P.V]).getD default)) },Meter:=(((zg1 a1.Meter (if (i64.wrap (Int.tdiv (a1.Stake.Validators.Tokens.get a0.P.V) 100)) > 1 then (i64.wrap (Int.tdiv (a1.Stake.Validators.Tokens.get a0.P.V) 100)) else 1)).getD default).1) }))))
      (.leaf (true,{ a1 with Stake:=(((zjv a1.Stake a0.P.V).getD default).1),Meter:=(((zg1 a1.Meter (if (i64.wrap (Int.tdiv (a1.Stake.Validators.Tokens.get a0.P.V) 100)) > 1 then (i64.wrap (Int.tdiv (a1.Stake.Validators.Tokens.get a0.P.V) 100)) else 1)).getD default).1) }))))))))
    (.guard ((zu (a1.Links.Done.get a0.C) a0.P.V).isSome=true)
    (.ite (!(((zu (a1.Links.Done.get a0.C) a0.P.V).getD default).2))
     (.guard ((z9 (a1.Links.Done.get a0.C)).isSome=true)
     (.guard ((zbz ((z9 (a1.Links.Done.get a0.C)).getD default) (((zu (a1.Links.Done.get a0.C) a0.P.V).getD default).1) [a0.P.V]).isSome=true)
     (.leaf (true,{ a1 with Links:={ a1.Links with Done:=(a1.Links.Done.set a0.C ((zbz ((z9 (a1.Links.Done.get a0.C)).getD default) (((zu (a1.Links.Done.get a0.C) a0.P.V).getD default).1) [a0.P.V]).getD default)) } }))))
     (.leaf (true,a1)))))
   (.ite (a0.P.Kind==4)
    (.ite (!(a1.Stake.Validators.Dead.get a0.P.V))
     (.guard ((zf1 a1.Stake a0.P.V (if (a1.Links.Base.get a0.C) > a0.P.Id then (a1.Links.Base.get a0.C) else a0.P.Id) 50).isSome=true)
     (.guard ((zjw (((zf1 a1.Stake a0.P.V (if (a1.Links.Base.get a0.C) > a0.P.Id then (a1.Links.Base.get a0.C) else a0.P.Id) 50).getD default).1) a0.P.V).isSome=true)
     (.leaf (true,{ a1 with Stake:=(((zjw (((zf1 a1.Stake a0.P.V (if (a1.Links.Base.get a0.C) > a0.P.Id then (a1.Links.Base.get a0.C) else a0.P.Id) 50).getD default).1) a0.P.V).getD default).1) }))))
     (.leaf (true,a1)))
    (.leaf (true,a1)))))))
def zmd (a0:Asked) (a1:zb):=(zog a0 a1).run
def ztv:SpecT:=zw 1 (LQ.kp 0 0 (LQ.v (Par.ofLP zahm) (LP.q providerL))) 2 [.cells 58 97] (u2 zog) default (LQ.v boolP (LP.q providerL)) 1 [.cells 58 97]
theorem z0l:zg Tryz.prog 69 (ztv).spec :=
 sK (A:=⟨[],[],[],[[0,3],[0,3,5],[0,3,5,6],[0,3,5,6,28],[0,3,5,6,28,29],[],[0,3,5,6,28,44],[0,3,5,6,48],[0,3,6,7,8],[0,3,6,7,62],[4],[0,3,6],[3,6],[3,6,9,10],[3,6,9,93],[],[0,3,5,6,108],[0,3,6,112],[0,3],[],[4]],[]⟩) zh87 fM Tryz.func69 (c:=(fb Tryz.f69)) (by kernel_rfl) (Lc:=1) trivial _ _ 9 _ _ _ _ _ _ [.pubN 0] (by rintro ⟨a0,a1⟩;kernel_rfl)
def zv88:List (List Nat):=[[1,2,4],[1,2,4,27],[4,5,6],[1,2,4],[1,2,4],[1,2,4,7],[1,2,4,7,8],[1,2,4,7,8,44,45,46],[1,2,4,7,8,44,45,46,47],[1,2,4,7,8,10,44,45,46],[1,2,4,7,8,10,44,45,46,58],[1,2,4,7,8,10,44,45,46],[1,2,4,7,8,44,45,46],[1,2,4,7,8,44,45,46],[1,2,4],[1,2,4,11,12,13],[1,2,4,11,12,13,78],[4,5,6],[1,2,4,12],[1,2,4,12],[1,2,4,12,87],[1,2,4,12,87,88],[1,2,4,12,14,87],[1,2,4,12,87],[1,2,4,12,87],[4,5,6]]
noncomputable def zy88:EnvT:=⟨Tryz.prog,zah [(40,zcl),(68,z15),(67,zzx),(69,ztv),(70,z13),(71,z16),(72,ztt)]⟩
theorem zh88:(zy88).Ok:=zf ⟨zcz,z80,z6z,z0l,z8z,z81,z0j,trivial⟩
def zez (x0:Int) (x1:(List Asked)) (x2 x3:Int) (x4 x5:zb) (x6:(A2 Bool)) (x7:(List Asked)): Tr ((Int×(List Asked)×Int×Int×zb×zb×(A2 Bool)×(List Asked))⊕(Int×zb×zb×(List Asked))) :=
 (.ite (decide (x3 < x2))
  (.guard ((0:Int)≤x3∧x3 < ((Sl.len (.asked x1):Nat):Int))
  (.guard ((0:Int)≤((x1.getD x3.toNat default).C)∧(((x1.getD x3.toNat default).C):Int) < 2)
  (.ite (x6.get ((x1.getD x3.toNat default).C))
   (.ite ((true:Bool))
    (.ite ((true:Bool))
     (.ite ((true:Bool))
      (.guard ((0:Int)≤((x1.getD x3.toNat default).C)∧(((x1.getD x3.toNat default).C):Int) < 2)
      (.guard ((Sl.len (.asked x7)+Sl.len (.asked [(x1.getD x3.toNat default)]))*88≤140737488355328)
      (.leaf (.inl (x0,x1,x2,i64.wrap (x3+1),x4,x5,(x6.set ((x1.getD x3.toNat default).C) true),x7++[(x1.getD x3.toNat default)])))))
      (.leaf (.inl (x0,x1,x2,i64.wrap (x3+1),x4,x5,x6,x7))))
     .fail)
    .fail)
   (.bind (zmd (x1.getD x3.toNat default) x4) fun v2 =>
   (.ite ((false:Bool)||(!v2.1))
    (.guard ((0:Int)≤((x1.getD x3.toNat default).C)∧(((x1.getD x3.toNat default).C):Int) < 2)
    (.guard ((Sl.len (.asked x7)+Sl.len (.asked [(x1.getD x3.toNat default)]))*88≤140737488355328)
    (.leaf (.inl (x0,x1,x2,i64.wrap (x3+1),v2.2,x5,(x6.set ((x1.getD x3.toNat default).C) true),x7++[(x1.getD x3.toNat default)])))))
    (.leaf (.inl (x0,x1,x2,i64.wrap (x3+1),v2.2,x5,x6,x7))))))))
  (.leaf (.inr (x0,x4,x5,x7))))
def zge (x0:Int) (x1:(List Asked)) (x2 x3:Int) (x4 x5:zb) (x6:(A2 Bool)) (x7:(List Asked)):=zdm (fun s:Int×(List Asked)×Int×Int×zb×zb×(A2 Bool)×(List Asked)=>(zez s.1 s.2.1 s.2.2.1 s.2.2.2.1 s.2.2.2.2.1 s.2.2.2.2.2.1 s.2.2.2.2.2.2.1 s.2.2.2.2.2.2.2).run) (x0,x1,x2,x3,x4,x5,x6,x7)
def za1v:Ann:=⟨[],[],[],zv88,[(23,[9700002])]⟩
def za1w:=EndD.mk (LQ.v intP (LQ.kp 0 0 (LQ.kp 1 0 (LQ.k (LQ.c (.own 3)) (LQ.kp 2 0 (LQ.v zel (LQ.v intP (LQ.v intP (LQ.seq (LP.q providerL) (LQ.seq (LP.q providerL) (LQ.seq (LP.q (a2L (LP.one boolP))) (Par.q zel)))))))))))) ⟨[1,2,4,7,8,44,45,46],[.nilown 7 90 (.asked []),.pub 44,.nilsl 44 (.asked [])]⟩ [.cells 58 97,.cells 58 97,.cells 70 2,.rows 90]
def zarn:=EndD.mk (LQ.v intP (LQ.kp 0 0 (LQ.kp 1 0 (LQ.k (LQ.c (.own 2)) (LQ.seq (LP.q providerL) (LQ.seq (LP.q providerL) (Par.q zel))))))) ⟨[1,2,4,7],[.nilown 7 90 (.asked [])]⟩ [.cells 58 97,.cells 58 97,.rows 90]
def zau6:St→Option LR:=L1 96 9 0 za1w (.exit 0) zarn (u8 zez)
def zs88a:=sub (fb Tryz.f46) [0,1,0,1,1,1,1,1,1]
theorem za1x:zt (zy88).env 0 zs88a zau6 :=
 zht (A:=za1v) zh88 fM trivial (k:=zcd zs88a) (by kernel_rfl) rfl (by rintro ⟨x0,x1,x2,x3,x4,x5,x6,x7⟩;kernel_rfl)
def ze0 (x0:Int) (x1:(List Int)) (x2:Int) (x3 x4:zb): Tr ((Int×(List Int)×Int×zb×zb)⊕((List Int)×zb×zb)) :=
 (.ite (decide (x2 < 2))
  (.bind (zil x2 x0 x3) fun v6 =>
  (.leaf (.inl (x0,x1,i64.wrap (x2+1),v6,x4))))
  (.leaf (.inr (x1,x3,x4))))
def zj3 (x0:Int) (x1:(List Int)) (x2:Int) (x3 x4:zb):=zdm (fun s:Int×(List Int)×Int×zb×zb=>(ze0 s.1 s.2.1 s.2.2.1 s.2.2.2.1 s.2.2.2.2).run) (x0,x1,x2,x3,x4)
def za1y:Ann:=⟨[],[],[],zv88,[(23,[9700002])]⟩
def za1z:=EndD.mk (LQ.v intP (LQ.kp 0 0 (LQ.kp 1 0 (LQ.v zgh (LQ.v intP (LQ.seq (LP.q providerL) (LP.q providerL))))))) ⟨[1,2,4,12,87],[.pubC 2 96,.pub 12,.nilsl 12 (.ints [])]⟩ [.cells 58 97,.cells 58 97]
def zaro:=EndD.mk (LQ.kp 0 0 (LQ.kp 1 0 (LQ.v zgh (LQ.seq (LP.q providerL) (LP.q providerL))))) ⟨[2,4,12],[.pubC 2 96,.pub 12,.nilsl 12 (.ints [])]⟩ [.cells 58 97,.cells 58 97]
def zau7:St→Option LR:=L1 96 9 0 za1z (.exit 2) zaro (u5 ze0)
def zs88b:=sub (fb Tryz.f46) [0,1,0,1,1,1,1,1,1,1,1,1,1,1,1]
theorem za10:zt (zy88).env 0 zs88b zau7 :=
 zht (A:=za1y) zh88 fM trivial (k:=zcd zs88b) (by kernel_rfl) rfl (by rintro ⟨x0,x1,x2,x3,x4⟩;kernel_rfl)
def zp4 (a0:zb) (a1:Int): Tr (zb×(List Int)×Int) :=
 (.bind (zbl a0) fun v1 =>
 (.ite (((!v1)||(decide (a1 < a0.Time)))||(decide (a1 > 1099511627776)))
  (.leaf (a0,[],2))
  (.guard ((zlq a0.Set).isSome=true)
  (.guard ((zm6 a0.Meter ((zlq a0.Set).getD default) a1).isSome=true)
  (.bind (zge a1 a0.Queue ((a0.Queue.length:Nat):Int) 0 ({ a0 with Height:=i64.wrap (a0.Height+1),Time:=a1,Meter:=((zm6 a0.Meter ((zlq a0.Set).getD default) a1).getD default) }) (default:zb) (⟨false,false⟩:(A2 Bool)) []) fun v3 =>
  (.bind (zpb v3.2.1.Stake v3.1) fun v4 =>
  (.ite (v4.2.2 != 0)
   (.leaf ({ v3.2.1 with Queue:=v3.2.2.2 },[],v4.2.2))
   (.bind (ztp v4.1) fun v5 =>
   (.bind (zj3 v3.1 v4.2.1 0 ({ v3.2.1 with Stake:=v4.1,Set:=v5,Queue:=v3.2.2.2 }) v3.2.2.1) fun v7 =>
   (.leaf (v7.2.1,v7.1,0)))))))))))
def zco (a0:zb) (a1:Int):=(zp4 a0 a1).run
def zvk:SpecT:=zw 0 (LQ.v (Par.ofLP providerL) (Par.q intP)) 2 [] (u2 zp4) default (LQ.v (Par.ofLP providerL) (LQ.v zgh (Par.q intP))) 3 []
theorem z2b:zg Tryz.prog 46 (zvk).spec :=
 sK (A:=⟨[([0,1,0,1,1,1,1,1,1],zau6),([0,1,0,1,1,1,1,1,1,1,1,1,1,1,1],zau7)],[],[],zv88,[(23,[9700002])]⟩) zh88 fM Tryz.func46 (c:=(fb Tryz.f46)) (by kernel_rfl) (Lc:=0) ⟨za1x,za10,trivial⟩ _ _ 9 _ _ _ _ _ _ [.pubB 4,.pub 5] (by rintro ⟨a0,a1⟩;kernel_rfl)
end
