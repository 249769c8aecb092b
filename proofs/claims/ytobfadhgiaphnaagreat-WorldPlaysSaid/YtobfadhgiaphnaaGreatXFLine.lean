/-
  The functions, each by its tree.
-/
import Derived.Test.YtobfadhgiaphnaaGreatXAbC
import Derived.Test.YtobfadhgiaphnaaGreatXFRatio
import Derived.Test.YtobfadhgiaphnaaGreatXFacts
namespace Go.Proofs.YtobfadhgiaphnaaGreat.Ab
open Go Go.RowKit
open Go.IntKind (i64 u64)
set_option maxRecDepth 100000
set_option linter.unusedVariables false
set_option linter.unusedSimpArgs false
noncomputable section
def zj3 (a0:(List ByteArray)): Tr ((List ByteArray)) :=
 (.split (Sl.len (.strs a0)=0) (True)
  (.leaf [])
  (.guard ((Sl.len (.strs [])+Sl.len (.strs a0))*16≤140737488355328)
  (.leaf a0)))
def zdp (a0:(List ByteArray)):=(zj3 a0).run
def zqw:SpecT:=zn 0 (Par.q z81) 1 [] zj3 default (LQ.k (LQ.c (.own 0)) (Par.q z81)) 1 [.rows 9]
theorem z01:ze Tryz.prog 199 (zqw).spec :=
 sK (A:=⟨[],[],[],[[0],[0,4],[2],[2]],[]⟩) zhN fM Tryz.func199 (c:=(fb Tryz.f199)) (by kernel_rfl) (Lc:=0) trivial _ _ 5 _ _ _ _ _ _ [.nilown 2 9 (.strs [])] (by rintro a0;kernel_rfl)
def znw (a0:(List Int)): Tr ((List Int)) :=
 (.split (Sl.len (.ints a0)=0) (True)
  (.leaf [])
  (.guard ((Sl.len (.ints [])+Sl.len (.ints a0))*8≤140737488355328)
  (.leaf a0)))
def zaj (a0:(List Int)):=(znw a0).run
def znx:SpecT:=zn 0 (Par.q za7) 1 [] znw default (LQ.k (LQ.c (.own 0)) (Par.q za7)) 1 [.rows 3]
theorem zt1:ze Tryz.prog 166 (znx).spec :=
 sK (A:=⟨[],[],[],[[0],[0,4],[2],[2]],[]⟩) zhN fM Tryz.func166 (c:=(fb Tryz.f166)) (by kernel_rfl) (Lc:=0) trivial _ _ 5 _ _ _ _ _ _ [.nilown 2 3 (.ints [])] (by rintro a0;kernel_rfl)
def zgy (a0:(List Power)): Tr ((List Power)) :=
 (.split (Sl.len (.powers a0)=0) (True)
  (.leaf [])
  (.guard ((Sl.len (.powers [])+Sl.len (.powers a0))*16≤140737488355328)
  (.leaf a0)))
def zgj (a0:(List Power)):=(zgy a0).run
def zng:SpecT:=zn 0 (Par.q zf) 1 [] zgy default (LQ.k (LQ.c (.own 0)) (Par.q zf)) 1 [.rows 154]
theorem zwz:ze Tryz.prog 127 (zng).spec :=
 sK (A:=⟨[],[],[],[[0],[0,4],[2],[2]],[]⟩) zhN fM Tryz.func127 (c:=(fb Tryz.f127)) (by kernel_rfl) (Lc:=0) trivial _ _ 5 _ _ _ _ _ _ [.nilown 2 154 (.powers [])] (by rintro a0;kernel_rfl)
def zft (a0:(List Power)): Tr ((List Power)) :=
 (.split (Sl.len (.powers a0)=0) (True)
  (.leaf [])
  (.guard ((Sl.len (.powers [])+Sl.len (.powers a0))*16≤140737488355328)
  (.leaf a0)))
def za1 (a0:(List Power)):=(zft a0).run
def zfu:SpecT:=zn 0 (Par.q zf) 1 [] zft default (Par.q zf) 1 []
theorem zj4:ze Tryz.prog 127 (zfu).spec :=
 sK (A:=⟨[],[],[],[[0],[0,4],[2],[2]],[]⟩) zhN fM Tryz.func127 (c:=(fb Tryz.f127)) (by kernel_rfl) (Lc:=0) trivial _ _ 5 _ _ _ _ _ _ [.pub 2] (by rintro a0;kernel_rfl)
def zhv (a0:(List Wait)): Tr ((List Wait)) :=
 (.split (Sl.len (.waits a0)=0) (True)
  (.leaf [])
  (.guard ((Sl.len (.waits [])+Sl.len (.waits a0))*64≤140737488355328)
  (.leaf a0)))
def zz (a0:(List Wait)):=(zhv a0).run
def zcx:SpecT:=zn 0 (Par.q zbx) 1 [] zhv default (LQ.k (LQ.c (.own 0)) (Par.q zbx)) 1 [.rows 127]
theorem zeh:ze Tryz.prog 118 (zcx).spec :=
 sK (A:=⟨[],[],[],[[0],[0,4],[2],[2]],[]⟩) zhN fM Tryz.func118 (c:=(fb Tryz.f118)) (by kernel_rfl) (Lc:=0) trivial _ _ 5 _ _ _ _ _ _ [.nilown 2 127 (.waits [])] (by rintro a0;kernel_rfl)
def zgz (a0:(List Asked)): Tr ((List Asked)) :=
 (.split (Sl.len (.asked a0)=0) (True)
  (.leaf [])
  (.guard ((Sl.len (.asked [])+Sl.len (.asked a0))*88≤140737488355328)
  (.leaf a0)))
def zbc (a0:(List Asked)):=(zgz a0).run
def zg0:SpecT:=zn 0 (Par.q zac) 1 [] zgz default (LQ.k (LQ.c (.own 0)) (Par.q zac)) 1 [.rows 112]
theorem zl1:ze Tryz.prog 179 (zg0).spec :=
 sK (A:=⟨[],[],[],[[0],[0,4],[2],[2]],[]⟩) zhN fM Tryz.func179 (c:=(fb Tryz.f179)) (by kernel_rfl) (Lc:=0) trivial _ _ 5 _ _ _ _ _ _ [.nilown 2 112 (.asked [])] (by rintro a0;kernel_rfl)
def zgk (a0:(List Packet)): Tr ((List Packet)) :=
 (.split (Sl.len (.packets a0)=0) (True)
  (.leaf [])
  (.guard ((Sl.len (.packets [])+Sl.len (.packets a0))*80≤140737488355328)
  (.leaf a0)))
def zby (a0:(List Packet)):=(zgk a0).run
def zl2:SpecT:=zn 0 (Par.q zal) 1 [] zgk default (LQ.k (LQ.c (.own 0)) (Par.q zal)) 1 [.rows 110]
theorem zvh:ze Tryz.prog 180 (zl2).spec :=
 sK (A:=⟨[],[],[],[[0],[0,4],[2],[2]],[]⟩) zhN fM Tryz.func180 (c:=(fb Tryz.f180)) (by kernel_rfl) (Lc:=0) trivial _ _ 5 _ _ _ _ _ _ [.nilown 2 110 (.packets [])] (by rintro a0;kernel_rfl)
def zhw (a0:(List Ripe)): Tr ((List Ripe)) :=
 (.split (Sl.len (.ripes a0)=0) (True)
  (.leaf [])
  (.guard ((Sl.len (.ripes [])+Sl.len (.ripes a0))*16≤140737488355328)
  (.leaf a0)))
def zg1 (a0:(List Ripe)):=(zhw a0).run
def zny:SpecT:=zn 0 (Par.q znd) 1 [] zhw default (LQ.k (LQ.c (.own 0)) (Par.q znd)) 1 [.rows 119]
theorem zx6:ze Tryz.prog 129 (zny).spec :=
 sK (A:=⟨[],[],[],[[0],[0,4],[2],[2]],[]⟩) zhN fM Tryz.func129 (c:=(fb Tryz.f129)) (by kernel_rfl) (Lc:=0) trivial _ _ 5 _ _ _ _ _ _ [.nilown 2 119 (.ripes [])] (by rintro a0;kernel_rfl)
def zzo (a0:Int): Tr (Bool) :=
 (.leaf (decide (a0 < 0)))
def z4e (a0:Int):=(zzo a0).run
def z7r:SpecT:=zn 0 (Par.q intP) 1 [] zzo default (Par.q boolP) 1 []
theorem zafh:ze Tryz.prog 150 (z7r).spec :=
 sK (A:=⟨[],[],[],[[0],[2]],[]⟩) zhN fM Tryz.func150 (c:=(fb Tryz.f150)) (by kernel_rfl) (Lc:=0) trivial _ _ 2 _ _ _ _ _ _ [] (by rintro a0;kernel_rfl)
def zv40:List (List Nat):=[[0,1],[0,1,7,8],[0,1,7,8,9],[0,1,5,7,8],[0,1,5,7,8,16],[4],[0,1,7,8],[4]]
noncomputable def zy40:EnvT:=⟨Tryz.prog,zw [(150,z7r)]⟩
theorem zh40:(zy40).Ok:=zd ⟨zafh,trivial⟩
def zdx (x0:(List Int)) (x1 x2:Int): Tr (((List Int)×Int×Int)⊕((Int)⊕(Unit))) :=
 (.ite (decide (x2 < x1))
  (.guard ((0:Int)≤x2∧x2 < ((Sl.len (.ints x0):Nat):Int))
  (.bind (z4e (x0.getD x2.toNat 0)) fun v1 =>
  (.ite (v1)
   (.leaf (.inr (.inl x2)))
   (.leaf (.inl (x0,x1,i64.wrap (x2+1)))))))
  (.leaf (.inr (.inr ()))))
def zlf (x0:(List Int)) (x1 x2:Int):=zbl (fun s:(List Int)×Int×Int=>(zdx s.1 s.2.1 s.2.2).run) (x0,x1,x2)
def zbjn:Ann:=⟨[],[],[],zv40,[]⟩
def zbjo:=EndD.mk (LQ.v za7 (LQ.k (LQ.c (.fn 150 [])) (LQ.v intP (Par.q intP)))) ⟨[0,1,7,8],[.pub 0,.nilsl 0 (.ints [])]⟩ []
def za4s:=EndD.mk (Par.q intP) ⟨[4],[]⟩ []
def za4t:EndD (Unit):=⟨LQ.nil,⟨[],[]⟩,[]⟩
def za9l:St→Option LR:=L2 19 2 0 zbjo .ret za4s (.exit 0) za4t (u3 zdx)
def zs40a:=sub (fb Tryz.f185) [0,1,0,1]
theorem zbjp:zk (zy40).env 0 zs40a za9l :=
 zgs (A:=zbjn) zh40 fM trivial (k:=z8 zs40a) (by kernel_rfl) rfl rfl (by rintro ⟨x0,x1,x2⟩;kernel_rfl)
def zfp (a0:(List Int)): Tr (Int) :=
 (.two (zlf a0 ((a0.length:Nat):Int) 0) (fun v2 =>
  (.leaf v2)) (fun v3 =>
  (.leaf (-1))))
def zhx (a0:(List Int)):=(zfp a0).run
def zo2:SpecT:=zn 0 (LQ.skipR (Par.q za7) (LQ.c (.fn 150 []))) 2 [] zfp default (Par.q intP) 1 []
theorem zzp:ze Tryz.prog 185 (zo2).spec :=
 sK (A:=⟨[([0,1,0,1],za9l)],[],[],zv40,[]⟩) zh40 fM Tryz.func185 (c:=(fb Tryz.f185)) (by kernel_rfl) (Lc:=0) ⟨zbjp,trivial⟩ _ _ 2 _ _ _ _ _ _ [] (by rintro a0;kernel_rfl)
noncomputable def zy41:EnvT:=⟨Tryz.prog,zw [(185,zo2)]⟩
theorem zh41:(zy41).Ok:=zd ⟨zzp,trivial⟩
def zgl (a0:(List Int)): Tr (Bool) :=
 (.bind (zhx a0) fun v1 =>
 (.leaf (decide (v1≥0))))
def zfv (a0:(List Int)):=(zgl a0).run
def zl3:SpecT:=zn 0 (LQ.skipR (Par.q za7) (LQ.c (.fn 150 []))) 2 [] zgl default (Par.q boolP) 1 []
theorem zvi:ze Tryz.prog 149 (zl3).spec :=
 sK (A:=⟨[],[],[],[[0,1],[4]],[]⟩) zh41 fM Tryz.func149 (c:=(fb Tryz.f149)) (by kernel_rfl) (Lc:=0) trivial _ _ 2 _ _ _ _ _ _ [] (by rintro a0;kernel_rfl)
noncomputable def zy42:EnvT:=⟨Tryz.prog,zw [(149,zl3)]⟩
theorem zh42:(zy42).Ok:=zd ⟨zvi,trivial⟩
def z5s (a0:zbs): Tr (Bool) :=
 (.ite ((((((a0.Said.length:Nat):Int) != ((a0.Due.length:Nat):Int))||(decide (((a0.Said.length:Nat):Int) > 400)))||(decide (a0.Got < 0)))||(decide (a0.Got > ((a0.Said.length:Nat):Int))))
  (.leaf false)
  (.bind (zfv a0.Due) fun v1 =>
  (.leaf (!v1))))
def zf3 (a0:zbs):=(z5s a0).run
def zpi:SpecT:=zn 0 (Par.q (Par.ofLP lineL)) 1 [] z5s default (Par.q boolP) 1 []
theorem zqx:ze Tryz.prog 111 (zpi).spec :=
 sK (A:=⟨[],[],[],[[1],[1,28],[2],[2]],[]⟩) zh42 fM Tryz.func111 (c:=(fb Tryz.f111)) (by kernel_rfl) (Lc:=0) trivial _ _ 3 _ _ _ _ _ _ [] (by rintro a0;kernel_rfl)
noncomputable def zy43:EnvT:=⟨Tryz.prog,zw [(111,zpi),(199,zqw),(166,znx)]⟩
theorem zh43:(zy43).Ok:=zd ⟨zqx,z01,zt1,trivial⟩
def z9c (a0:zbs) (a1:ByteArray) (a2:Int): Tr (zbs×Int) :=
 (.bind (zf3 a0) fun v1 =>
 (.ite ((!v1)||(decide (a2 < 0)))
  (.leaf (a0,2))
  (.ite (a0.Closed)
   (.leaf (a0,11))
   (.ite (decide (((a0.Said.length:Nat):Int)≥400))
    (.leaf (a0,6))
    (.guard ((zdp a0.Said).isSome=true)
    (.guard ((Sl.len (.strs ((zdp a0.Said).getD default))+Sl.len (.strs [a1]))*16≤140737488355328)
    (.guard ((zaj a0.Due).isSome=true)
    (.guard ((Sl.len (.ints ((zaj a0.Due).getD default))+Sl.len (.ints [a2]))*8≤140737488355328)
    (.leaf ({ a0 with Said:=((zdp a0.Said).getD default)++[a1],Due:=((zaj a0.Due).getD default)++[a2] },0))))))))))
def zzq (a0:zbs) (a1:ByteArray) (a2:Int):=(z9c a0 a1 a2).run
def z9d:SpecT:=zn 0 (LQ.v (Par.ofLP lineL) (LQ.v z67 (Par.q intP))) 3 [] (u3 z9c) default (LQ.v (Par.ofLP lineL) (Par.q intP)) 2 []
theorem zacz:ze Tryz.prog 174 (z9d).spec :=
 sK (A:=⟨[],[],[],[[1,2,3,6],[1,2,3,6,8],[6,7],[1,2,3,6,17],[6,7],[1,2,3,6,21],[6,7],[3,6],[6,7]],[]⟩) zh43 fM Tryz.func174 (c:=(fb Tryz.f174)) (by kernel_rfl) (Lc:=0) trivial _ _ 10 _ _ _ _ _ _ [.pubB 6] (by rintro ⟨a0,a1,a2⟩;kernel_rfl)
noncomputable def zy44:EnvT:=⟨Tryz.prog,zw [(111,zpi)]⟩
theorem zh44:(zy44).Ok:=zd ⟨zqx,trivial⟩
def zw0 (a0:zbs) (a1:Int) (a2:ByteArray) (a3 a4:Int): Tr (zbs×Int) :=
 (.bind (zf3 a0) fun v1 =>
 (.ite (!v1)
  (.leaf (a0,2))
  (.ite (a0.Closed)
   (.leaf (a0,11))
   (.ite (a1 != (i64.wrap (a0.Got+1)))
    (.leaf (a0,10))
    (.guard ((((decide (a1 > a3))||(decide (a1 > ((a0.Said.length:Nat):Int))))=false→((0:Int)≤(i64.wrap (a1 - 1))∧(i64.wrap (a1 - 1)) < ((Sl.len (.strs a0.Said):Nat):Int))∧True))
    (.ite (((decide (a1 > a3))||(decide (a1 > ((a0.Said.length:Nat):Int))))||(!((a0.Said.getD ((i64.wrap (a1 - 1)).toNat) .empty).toList==a2.toList)))
     (.leaf (a0,9))
     (.guard ((0:Int)≤(i64.wrap (a1 - 1))∧(i64.wrap (a1 - 1)) < ((Sl.len (.ints a0.Due):Nat):Int))
     (.ite (decide (a4≥(a0.Due.getD ((i64.wrap (a1 - 1)).toNat) 0)))
      (.leaf (a0,12))
      (.leaf ({ a0 with Got:=a1 },0))))))))))
def zp (a0:zbs) (a1:Int) (a2:ByteArray) (a3 a4:Int):=(zw0 a0 a1 a2 a3 a4).run
def z4f:SpecT:=zn 0 (LQ.v (Par.ofLP lineL) (LQ.v intP (LQ.v z67 (LQ.v intP (Par.q intP))))) 5 [] (u5 zw0) default (LQ.v (Par.ofLP lineL) (Par.q intP)) 2 []
theorem zac0:ze Tryz.prog 133 (z4f).spec :=
 sK (A:=⟨[],[],[],[[1,2,3,4,5,10],[1,2,3,4,5,10,12],[10,11],[1,2,3,4,5,10,17],[10,11],[1,2,3,4,5,10,21],[10,11],[1,4,5,10,28],[10,11],[1,5,10,50],[10,11],[5,10],[10,11]],[]⟩) zh44 fM Tryz.func133 (c:=(fb Tryz.f133)) (by kernel_rfl) (Lc:=0) trivial _ _ 4 _ _ _ _ _ _ [.pubB 10] (by rintro ⟨a0,a1,a2,a3,a4⟩;kernel_rfl)
noncomputable def zy45:EnvT:=⟨Tryz.prog,zw [(111,zpi)]⟩
theorem zh45:(zy45).Ok:=zd ⟨zqx,trivial⟩
def zzr (a0:zbs) (a1 a2 a3:Int): Tr (zbs×Int) :=
 (.bind (zf3 a0) fun v1 =>
 (.ite (!v1)
  (.leaf (a0,2))
  (.ite (a0.Closed)
   (.leaf (a0,11))
   (.ite ((decide (a1 < 1))||(decide (a1 > ((a0.Said.length:Nat):Int))))
    (.leaf (a0,4))
    (.ite (decide (a1≤a3))
     (.leaf (a0,5))
     (.guard ((0:Int)≤(i64.wrap (a1 - 1))∧(i64.wrap (a1 - 1)) < ((Sl.len (.ints a0.Due):Nat):Int))
     (.ite (decide (a2 < (a0.Due.getD ((i64.wrap (a1 - 1)).toNat) 0)))
      (.leaf (a0,13))
      (.leaf ({ a0 with Closed:=true },0)))))))))
def zqk (a0:zbs) (a1 a2 a3:Int):=(zzr a0 a1 a2 a3).run
def z7s:SpecT:=zn 0 (LQ.v (Par.ofLP lineL) (LQ.v intP (LQ.v intP (Par.q intP)))) 4 [] (u4 zzr) default (LQ.v (Par.ofLP lineL) (Par.q intP)) 2 []
theorem zafi:ze Tryz.prog 136 (z7s).spec :=
 sK (A:=⟨[],[],[],[[1,2,3,4,8],[1,2,3,4,8,10],[8,9],[1,2,3,4,8,15],[8,9],[1,2,3,4,8,19],[8,9],[1,2,4,8,30],[8,9],[4,8,35],[8,9],[4,8],[8,9]],[]⟩) zh45 fM Tryz.func136 (c:=(fb Tryz.f136)) (by kernel_rfl) (Lc:=0) trivial _ _ 4 _ _ _ _ _ _ [.pubB 8] (by rintro ⟨a0,a1,a2,a3⟩;kernel_rfl)
def za9m:List (List Nat):=[[0,1],[0,1,10],[4],[0,1,12,13],[0,1,12,13,14],[0,1,5,12,13],[0,1,12,13,24],[4],[0,1,12,13],[4]]
def zgu (x0 x1:(List Int)) (x2 x3:Int): Tr (((List Int)×(List Int)×Int×Int)⊕((Bool)⊕(Unit))) :=
 (.ite (decide (x3 < x2))
  (.guard ((0:Int)≤x3∧x3 < ((Sl.len (.ints x0):Nat):Int))
  (.guard ((0:Int)≤x3∧x3 < ((Sl.len (.ints x1):Nat):Int))
  (.ite ((x0.getD x3.toNat 0) != (x1.getD x3.toNat 0))
   (.leaf (.inr (.inl false)))
   (.leaf (.inl (x0,x1,x2,i64.wrap (x3+1)))))))
  (.leaf (.inr (.inr ()))))
def zqy (x0 x1:(List Int)) (x2 x3:Int):=zbl (fun s:(List Int)×(List Int)×Int×Int=>(zgu s.1 s.2.1 s.2.2.1 s.2.2.2).run) (x0,x1,x2,x3)
def za9n:Ann:=⟨[],[],[],za9m,[]⟩
def za9o:=EndD.mk (LQ.v za7 (LQ.v za7 (LQ.v intP (Par.q intP)))) ⟨[0,1,12,13],[.pub 0,.nilsl 0 (.ints []),.pub 1,.nilsl 1 (.ints [])]⟩ []
def zawt:=EndD.mk (Par.q boolP) ⟨[4],[]⟩ []
def zawu:EndD (Unit):=⟨LQ.nil,⟨[],[]⟩,[]⟩
def za11:St→Option LR:=L2 26 2 0 za9o .ret zawt (.exit 0) zawu (u4 zgu)
def zs118a:=sub (fb Tryz.f41) [0,1,0,1,1]
theorem za9p:zk (zyN).env 0 zs118a za11 :=
 zgs (A:=za9n) zhN fM trivial (k:=z8 zs118a) (by kernel_rfl) rfl rfl (by rintro ⟨x0,x1,x2,x3⟩;kernel_rfl)
def zpj (a0 a1:(List Int)): Tr (Bool) :=
 (.ite (((a0.length:Nat):Int) != ((a1.length:Nat):Int))
  (.leaf false)
  (.two (zqy a0 a1 ((a0.length:Nat):Int) 0) (fun v1 =>
   (.leaf v1)) (fun v2 =>
   (.leaf true))))
def zb1 (a0 a1:(List Int)):=(zpj a0 a1).run
def zky:SpecT:=zn 0 (LQ.v za7 (Par.q za7)) 2 [] (u2 zpj) default (Par.q boolP) 1 []
theorem znz:ze Tryz.prog 41 (zky).spec :=
 sK (A:=⟨[([0,1,0,1,1],za11)],[],[],za9m,[]⟩) zhN fM Tryz.func41 (c:=(fb Tryz.f41)) (by kernel_rfl) (Lc:=0) ⟨za9p,trivial⟩ _ _ 2 _ _ _ _ _ _ [] (by rintro ⟨a0,a1⟩;kernel_rfl)
def zw1 (a0:zbs): Tr (zbs) :=
 (.guard ((0+Sl.len (.strs a0.Said))*16≤140737488355328)
 (.guard ((0+Sl.len (.ints a0.Due))*8≤140737488355328)
 (.leaf a0)))
def zcy (a0:zbs):=(zw1 a0).run
def zi0:SpecT:=zn 0 (Par.q (Par.ofLP lineL)) 1 [] zw1 default (LQ.map (LQ.seq (LQ.agg (LQ.k (LQ.c (.own 0)) (LQ.k (LQ.c (.own 1)) (LQ.v intP (Par.q boolP))))) (LQ.v z81 (Par.q za7))) (fun x=>(⟨x.2.1,x.2.2,x.1.1,x.1.2⟩:zbs)) (fun y=>((y.Got,y.Closed),y.Said,y.Due)) (fun _=>rfl)) 1 [.rows 9,.rows 3]
theorem zj5:ze Tryz.prog 76 (zi0).spec :=
 sK (A:=⟨[],[],[],[[1,2],[1,2],[2]],[]⟩) zhN fM Tryz.func76 (c:=(fb Tryz.f76)) (by kernel_rfl) (Lc:=0) trivial _ _ 6 _ _ _ _ _ _ [] (by rintro a0;kernel_rfl)
def zrr (a0:zbs): Tr (zbs) :=
 (.guard ((0+Sl.len (.strs a0.Said))*16≤140737488355328)
 (.guard ((0+Sl.len (.ints a0.Due))*8≤140737488355328)
 (.leaf a0)))
def zap (a0:zbs):=(zrr a0).run
def zrs:SpecT:=zn 0 (Par.q (Par.ofLP lineL)) 1 [] zrr default (Par.q (Par.ofLP lineL)) 1 []
theorem zx7:ze Tryz.prog 76 (zrs).spec :=
 sK (A:=⟨[],[],[],[[1,2],[1,2],[2]],[]⟩) zhN fM Tryz.func76 (c:=(fb Tryz.f76)) (by kernel_rfl) (Lc:=0) trivial _ _ 6 _ _ _ _ _ _ [.pubB 2] (by rintro a0;kernel_rfl)
def za9q:List (List Nat):=[[2,3],[2,3,26],[4],[2,3,29,30],[2,3,29,30,31],[2,3,5,29,30],[2,3,29,30,43],[4],[2,3,29,30],[4]]
noncomputable def za9r:EnvT:=⟨Tryz.prog,zw [(41,zky)]⟩
theorem za9s:(za9r).Ok:=zd ⟨znz,trivial⟩
def zkz (x0 x1:Int) (x2 x3:zbs): Tr ((Int×Int×zbs×zbs)⊕((Bool)⊕(zbs×zbs))) :=
 (.ite (decide (x1 < x0))
  (.guard ((0:Int)≤x1∧x1 < ((Sl.len (.strs x2.Said):Nat):Int))
  (.guard ((0:Int)≤x1∧x1 < ((Sl.len (.strs x3.Said):Nat):Int))
  (.ite (!((x2.Said.getD x1.toNat .empty).toList==(x3.Said.getD x1.toNat .empty).toList))
   (.leaf (.inr (.inl false)))
   (.leaf (.inl (x0,i64.wrap (x1+1),x2,x3))))))
  (.leaf (.inr (.inr (x2,x3)))))
def zvw (x0 x1:Int) (x2 x3:zbs):=zbl (fun s:Int×Int×zbs×zbs=>(zkz s.1 s.2.1 s.2.2.1 s.2.2.2).run) (x0,x1,x2,x3)
def za9t:Ann:=⟨[],[],[],za9q,[]⟩
def za9u:=EndD.mk (LQ.kp 0 0 (LQ.kp 1 0 (LQ.v intP (LQ.v intP (LQ.seq (LP.q lineL) (LP.q lineL)))))) ⟨[2,3,29,30],[]⟩ [.cells 53 4,.cells 53 4]
def zawv:=EndD.mk (Par.q boolP) ⟨[4],[]⟩ []
def zaww:=EndD.mk (LQ.kp 0 0 (LQ.kp 1 0 (LQ.seq (LP.q lineL) (LP.q lineL)))) ⟨[2,3],[]⟩ [.cells 53 4,.cells 53 4]
def za12:St→Option LR:=L2 50 4 0 za9u .ret zawv (.exit 0) zaww (u4 zkz)
def zs121a:=sub (fb Tryz.f42) [0,1,0,1,1]
theorem za9v:zk (za9r).env 0 zs121a za12 :=
 zgs (A:=za9t) za9s fM trivial (k:=z8 zs121a) (by kernel_rfl) rfl rfl (by rintro ⟨x0,x1,x2,x3⟩;kernel_rfl)
def zw2 (a0 a1:zbs): Tr (Bool) :=
 (.ite (((((a0.Said.length:Nat):Int) != ((a1.Said.length:Nat):Int))||(a0.Got != a1.Got))||(!(a0.Closed==a1.Closed)))
  (.leaf false)
  (.two (zvw ((a0.Said.length:Nat):Int) 0 a0 a1) (fun v1 =>
   (.leaf v1)) (fun v2 =>
   (.bind (zb1 v2.1.Due v2.2.Due) fun v3 =>
   (.leaf v3)))))
def zg2 (a0 a1:zbs):=(zw2 a0 a1).run
def zw3:SpecT:=zn 0 (LQ.v (Par.ofLP lineL) (Par.q (Par.ofLP lineL))) 2 [] (u2 zw2) default (Par.q boolP) 1 []
theorem z10:ze Tryz.prog 42 (zw3).spec :=
 sK (A:=⟨[([0,1,0,1,1],za12)],[],[],za9q,[]⟩) za9s fM Tryz.func42 (c:=(fb Tryz.f42)) (by kernel_rfl) (Lc:=0) ⟨za9v,trivial⟩ _ _ 4 _ _ _ _ _ _ [] (by rintro ⟨a0,a1⟩;kernel_rfl)
def za9w:List (List Nat):=[[1],[1,6,7,8],[1,6,7,8,9],[1,4,6,7,8],[1,6,7,8,13],[2],[1,6,7,8],[2]]
def zk0 (x0:(List Int)) (x1 x2:Int) (x3:zbs): Tr (((List Int)×Int×Int×zbs)⊕((Bool)⊕(zbs))) :=
 (.ite (decide (x2 < x1))
  (.guard ((0:Int)≤x2∧x2 < ((Sl.len (.ints x0):Nat):Int))
  (.ite (decide ((x0.getD x2.toNat 0) < 0))
   (.leaf (.inr (.inl false)))
   (.leaf (.inl (x0,x1,i64.wrap (x2+1),x3)))))
  (.leaf (.inr (.inr x3))))
def zvx (x0:(List Int)) (x1 x2:Int) (x3:zbs):=zbl (fun s:(List Int)×Int×Int×zbs=>(zk0 s.1 s.2.1 s.2.2.1 s.2.2.2).run) (x0,x1,x2,x3)
def za9x:Ann:=⟨[],[],[],za9w,[]⟩
def za9y:=EndD.mk (LQ.kp 0 0 (LQ.v za7 (LQ.v intP (LQ.v intP (LP.q lineL))))) ⟨[1,6,7,8],[.pub 6,.nilsl 6 (.ints [])]⟩ [.cells 53 4]
def zawx:=EndD.mk (Par.q boolP) ⟨[2],[]⟩ []
def zawy:=EndD.mk (LQ.kp 0 0 (LP.q lineL)) ⟨[1],[]⟩ [.cells 53 4]
def za13:St→Option LR:=L2 41 3 0 za9y .ret zawx (.exit 0) zawy (u4 zk0)
def zs122a:=sub (fb Tryz.f75) [0,1,0,1]
theorem za9z:zk (zyN).env 0 zs122a za13 :=
 zgs (A:=za9x) zhN fM trivial (k:=z8 zs122a) (by kernel_rfl) rfl rfl (by rintro ⟨x0,x1,x2,x3⟩;kernel_rfl)
def zw4 (a0:zbs): Tr (Bool) :=
 (.two (zvx a0.Due ((a0.Due.length:Nat):Int) 0 a0) (fun v1 =>
  (.leaf v1)) (fun v2 =>
  (.leaf ((((((v2.Said.length:Nat):Int)==((v2.Due.length:Nat):Int))&&(decide (((v2.Said.length:Nat):Int)≤400)))&&(decide (v2.Got≥0)))&&(decide (v2.Got≤((v2.Said.length:Nat):Int)))))))
def zb8 (a0:zbs):=(zw4 a0).run
def zi1:SpecT:=zn 0 (Par.q (Par.ofLP lineL)) 1 [] zw4 default (Par.q boolP) 1 []
theorem zj6:ze Tryz.prog 75 (zi1).spec :=
 sK (A:=⟨[([0,1,0,1],za13)],[],[],za9w,[]⟩) zhN fM Tryz.func75 (c:=(fb Tryz.f75)) (by kernel_rfl) (Lc:=0) ⟨za9z,trivial⟩ _ _ 3 _ _ _ _ _ _ [] (by rintro a0;kernel_rfl)
noncomputable def zbjq:EnvT:=⟨Tryz.prog,zw [(75,zi1),(76,zi0)]⟩
theorem zbjr:(zbjq).Ok:=zd ⟨zj6,zj5,trivial⟩
def zac1 (a0:zbs) (a1:ByteArray) (a2:Int): Tr (zbs×Int) :=
 (.bind (zb8 a0) fun v1 =>
 (.ite ((!v1)||(decide (a2 < 0)))
  (.leaf (a0,2))
  (.ite (a0.Closed)
   (.leaf (a0,11))
   (.ite (((a0.Said.length:Nat):Int)==400)
    (.leaf (a0,6))
    (.bind (zcy a0) fun v2 =>
    (.guard ((Sl.len (.strs v2.Said)+Sl.len (.strs [a1]))*16≤140737488355328)
    (.guard ((Sl.len (.ints v2.Due)+Sl.len (.ints [a2]))*8≤140737488355328)
    (.leaf ({ v2 with Said:=v2.Said++[a1],Due:=v2.Due++[a2] },0)))))))))
def z3i (a0:zbs) (a1:ByteArray) (a2:Int):=(zac1 a0 a1 a2).run
def zac2:SpecT:=zn 0 (LQ.v (Par.ofLP lineL) (LQ.v z67 (Par.q intP))) 3 [] (u3 zac1) default (LQ.v (Par.ofLP lineL) (Par.q intP)) 2 []
theorem zagl:ze Tryz.prog 65 (zac2).spec :=
 sK (A:=⟨[],[],[],[[1,2,3,6],[1,2,3,6,15],[6,7],[1,2,3,6,18],[6,7],[1,2,3,6,23],[6,7],[1,2,6,8],[6,8],[6,7]],[]⟩) zbjr fM Tryz.func65 (c:=(fb Tryz.f65)) (by kernel_rfl) (Lc:=0) trivial _ _ 11 _ _ _ _ _ _ [.pubB 6] (by rintro ⟨a0,a1,a2⟩;kernel_rfl)
noncomputable def zbjs:EnvT:=⟨Tryz.prog,zw [(75,zi1),(76,zi0)]⟩
theorem zbjt:(zbjs).Ok:=zd ⟨zj6,zj5,trivial⟩
def zzs (a0:zbs) (a1:Int) (a2:ByteArray) (a3 a4:Int): Tr (zbs×Int) :=
 (.bind (zb8 a0) fun v1 =>
 (.ite (!v1)
  (.leaf (a0,2))
  (.ite (a0.Closed)
   (.leaf (a0,11))
   (.ite ((decide (a1 < 1))||((i64.wrap (a1 - 1)) != a0.Got))
    (.leaf (a0,10))
    (.guard ((((decide (a3 < a1))||(decide (((a0.Said.length:Nat):Int) < a1)))=false→((0:Int)≤a0.Got∧a0.Got < ((Sl.len (.strs a0.Said):Nat):Int))∧True))
    (.ite (((decide (a3 < a1))||(decide (((a0.Said.length:Nat):Int) < a1)))||(!(a2.toList==(a0.Said.getD a0.Got.toNat .empty).toList)))
     (.leaf (a0,9))
     (.guard ((0:Int)≤a0.Got∧a0.Got < ((Sl.len (.ints a0.Due):Nat):Int))
     (.ite (decide ((a0.Due.getD a0.Got.toNat 0)≤a4))
      (.leaf (a0,12))
      (.bind (zcy a0) fun v2 =>
      (.leaf ({ v2 with Got:=i64.wrap (v2.Got+1) },0)))))))))))
def zam (a0:zbs) (a1:Int) (a2:ByteArray) (a3 a4:Int):=(zzs a0 a1 a2 a3 a4).run
def z7t:SpecT:=zn 0 (LQ.v (Par.ofLP lineL) (LQ.v intP (LQ.v z67 (LQ.v intP (Par.q intP))))) 5 [] (u5 zzs) default (LQ.v (Par.ofLP lineL) (Par.q intP)) 2 []
theorem zafj:ze Tryz.prog 72 (z7t).spec :=
 sK (A:=⟨[],[],[],[[1,2,3,4,5,10],[1,2,3,4,5,10,15],[10,11],[1,2,3,4,5,10,18],[10,11],[1,2,3,4,5,10,28],[10,11],[4,5,10,49],[10,11],[5,10,58],[10,11],[10,12],[10,12],[10,11]],[]⟩) zbjt fM Tryz.func72 (c:=(fb Tryz.f72)) (by kernel_rfl) (Lc:=0) trivial _ _ 7 _ _ _ _ _ _ [.pubB 10] (by rintro ⟨a0,a1,a2,a3,a4⟩;kernel_rfl)
noncomputable def zbju:EnvT:=⟨Tryz.prog,zw [(75,zi1),(76,zi0)]⟩
theorem zbjv:(zbju).Ok:=zd ⟨zj6,zj5,trivial⟩
def z11 (a0:zbs) (a1 a2 a3:Int): Tr (zbs×Int) :=
 (.bind (zb8 a0) fun v1 =>
 (.ite (!v1)
  (.leaf (a0,2))
  (.ite (a0.Closed)
   (.leaf (a0,11))
   (.ite ((decide (a1 < 1))||(decide (((a0.Said.length:Nat):Int) < a1)))
    (.leaf (a0,4))
    (.ite (decide (a3≥a1))
     (.leaf (a0,5))
     (.guard ((0:Int)≤(i64.wrap (a1 - 1))∧(i64.wrap (a1 - 1)) < ((Sl.len (.ints a0.Due):Nat):Int))
     (.ite (decide ((a0.Due.getD ((i64.wrap (a1 - 1)).toNat) 0) > a2))
      (.leaf (a0,13))
      (.bind (zcy a0) fun v2 =>
      (.leaf ({ v2 with Closed:=true },0))))))))))
def zce (a0:zbs) (a1 a2 a3:Int):=(z11 a0 a1 a2 a3).run
def zaag:SpecT:=zn 0 (LQ.v (Par.ofLP lineL) (LQ.v intP (LQ.v intP (Par.q intP)))) 4 [] (u4 z11) default (LQ.v (Par.ofLP lineL) (Par.q intP)) 2 []
theorem zain:ze Tryz.prog 30 (zaag).spec :=
 sK (A:=⟨[],[],[],[[1,2,3,4,8],[1,2,3,4,8,13],[8,9],[1,2,3,4,8,16],[8,9],[1,2,3,4,8,26],[8,9],[1,2,4,8,30],[8,9],[4,8,39],[8,9],[8,10],[8,10],[8,9]],[]⟩) zbjv fM Tryz.func30 (c:=(fb Tryz.f30)) (by kernel_rfl) (Lc:=0) trivial _ _ 7 _ _ _ _ _ _ [.pubB 8] (by rintro ⟨a0,a1,a2,a3⟩;kernel_rfl)
end
