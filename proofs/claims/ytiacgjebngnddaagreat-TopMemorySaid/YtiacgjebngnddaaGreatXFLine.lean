/-
  The functions, each by its tree.
-/
import Derived.Test.YtiacgjebngnddaaGreatXAbC
import Derived.Test.YtiacgjebngnddaaGreatXFRatio
import Derived.Test.YtiacgjebngnddaaGreatXFacts
namespace Go.Proofs.YtiacgjebngnddaaGreat.Ab
open Go Go.RowKit
open Go.IntKind (i64 u64)
set_option maxRecDepth 100000
set_option linter.unusedVariables false
set_option linter.unusedSimpArgs false
noncomputable section
def zgz (a0:(List ByteArray)): Tr ((List ByteArray)) :=
 (.split (Sl.len (.strs a0)=0) (True)
  (.leaf [])
  (.guard ((Sl.len (.strs [])+Sl.len (.strs a0))*16≤140737488355328)
  (.leaf a0)))
def zb7 (a0:(List ByteArray)):=(zgz a0).run
def zmb:SpecT:=zu 0 (Par.q zb6) 1 [] zgz default (LQ.k (LQ.c (.own 0)) (Par.q zb6)) 1 [.rows 9]
theorem zta:zg Tryz.prog 137 (zmb).spec :=
 sK (A:=⟨[],[],[],[[0],[0,4],[2],[2]],[]⟩) zhN fM Tryz.func137 (c:=(fb Tryz.f137)) (by kernel_rfl) (Lc:=0) trivial _ _ 5 _ _ _ _ _ _ [.nilown 2 9 (.strs [])] (by rintro a0;kernel_rfl)
def zj2 (a0:(List Int)): Tr ((List Int)) :=
 (.split (Sl.len (.ints a0)=0) (True)
  (.leaf [])
  (.guard ((Sl.len (.ints [])+Sl.len (.ints a0))*8≤140737488355328)
  (.leaf a0)))
def zac (a0:(List Int)):=(zj2 a0).run
def zj3:SpecT:=zu 0 (Par.q zt) 1 [] zj2 default (LQ.k (LQ.c (.own 0)) (Par.q zt)) 1 [.rows 3]
theorem zoe:zg Tryz.prog 106 (zj3).spec :=
 sK (A:=⟨[],[],[],[[0],[0,4],[2],[2]],[]⟩) zhN fM Tryz.func106 (c:=(fb Tryz.f106)) (by kernel_rfl) (Lc:=0) trivial _ _ 5 _ _ _ _ _ _ [.nilown 2 3 (.ints [])] (by rintro a0;kernel_rfl)
def zet (a0:(List Power)): Tr ((List Power)) :=
 (.split (Sl.len (.powers a0)=0) (True)
  (.leaf [])
  (.guard ((Sl.len (.powers [])+Sl.len (.powers a0))*16≤140737488355328)
  (.leaf a0)))
def zei (a0:(List Power)):=(zet a0).run
def zjp:SpecT:=zu 0 (Par.q zd) 1 [] zet default (LQ.k (LQ.c (.own 0)) (Par.q zd)) 1 [.rows 83]
theorem zqi:zg Tryz.prog 73 (zjp).spec :=
 sK (A:=⟨[],[],[],[[0],[0,4],[2],[2]],[]⟩) zhN fM Tryz.func73 (c:=(fb Tryz.f73)) (by kernel_rfl) (Lc:=0) trivial _ _ 5 _ _ _ _ _ _ [.nilown 2 83 (.powers [])] (by rintro a0;kernel_rfl)
def zd3 (a0:(List Power)): Tr ((List Power)) :=
 (.split (Sl.len (.powers a0)=0) (True)
  (.leaf [])
  (.guard ((Sl.len (.powers [])+Sl.len (.powers a0))*16≤140737488355328)
  (.leaf a0)))
def zao (a0:(List Power)):=(zd3 a0).run
def zd4:SpecT:=zu 0 (Par.q zd) 1 [] zd3 default (Par.q zd) 1 []
theorem zg0:zg Tryz.prog 73 (zd4).spec :=
 sK (A:=⟨[],[],[],[[0],[0,4],[2],[2]],[]⟩) zhN fM Tryz.func73 (c:=(fb Tryz.f73)) (by kernel_rfl) (Lc:=0) trivial _ _ 5 _ _ _ _ _ _ [.pub 2] (by rintro a0;kernel_rfl)
def zfr (a0:(List Wait)): Tr ((List Wait)) :=
 (.split (Sl.len (.waits a0)=0) (True)
  (.leaf [])
  (.guard ((Sl.len (.waits [])+Sl.len (.waits a0))*64≤140737488355328)
  (.leaf a0)))
def zw (a0:(List Wait)):=(zfr a0).run
def zbs:SpecT:=zu 0 (Par.q zc6) 1 [] zfr default (LQ.k (LQ.c (.own 0)) (Par.q zc6)) 1 [.rows 78]
theorem zcw:zg Tryz.prog 64 (zbs).spec :=
 sK (A:=⟨[],[],[],[[0],[0,4],[2],[2]],[]⟩) zhN fM Tryz.func64 (c:=(fb Tryz.f64)) (by kernel_rfl) (Lc:=0) trivial _ _ 5 _ _ _ _ _ _ [.nilown 2 78 (.waits [])] (by rintro a0;kernel_rfl)
def zeu (a0:(List Asked)): Tr ((List Asked)) :=
 (.split (Sl.len (.asked a0)=0) (True)
  (.leaf [])
  (.guard ((Sl.len (.asked [])+Sl.len (.asked a0))*88≤140737488355328)
  (.leaf a0)))
def zat (a0:(List Asked)):=(zeu a0).run
def zev:SpecT:=zu 0 (Par.q zbe) 1 [] zeu default (LQ.k (LQ.c (.own 0)) (Par.q zbe)) 1 [.rows 90]
theorem zii:zg Tryz.prog 118 (zev).spec :=
 sK (A:=⟨[],[],[],[[0],[0,4],[2],[2]],[]⟩) zhN fM Tryz.func118 (c:=(fb Tryz.f118)) (by kernel_rfl) (Lc:=0) trivial _ _ 5 _ _ _ _ _ _ [.nilown 2 90 (.asked [])] (by rintro a0;kernel_rfl)
def zej (a0:(List Packet)): Tr ((List Packet)) :=
 (.split (Sl.len (.packets a0)=0) (True)
  (.leaf [])
  (.guard ((Sl.len (.packets [])+Sl.len (.packets a0))*80≤140737488355328)
  (.leaf a0)))
def za8 (a0:(List Packet)):=(zej a0).run
def zij:SpecT:=zu 0 (Par.q zal) 1 [] zej default (LQ.k (LQ.c (.own 0)) (Par.q zal)) 1 [.rows 73]
theorem zpb:zg Tryz.prog 119 (zij).spec :=
 sK (A:=⟨[],[],[],[[0],[0,4],[2],[2]],[]⟩) zhN fM Tryz.func119 (c:=(fb Tryz.f119)) (by kernel_rfl) (Lc:=0) trivial _ _ 5 _ _ _ _ _ _ [.nilown 2 73 (.packets [])] (by rintro a0;kernel_rfl)
def zfs (a0:(List Ripe)): Tr ((List Ripe)) :=
 (.split (Sl.len (.ripes a0)=0) (True)
  (.leaf [])
  (.guard ((Sl.len (.ripes [])+Sl.len (.ripes a0))*16≤140737488355328)
  (.leaf a0)))
def zew (a0:(List Ripe)):=(zfs a0).run
def zj4:SpecT:=zu 0 (Par.q zhw) 1 [] zfs default (LQ.k (LQ.c (.own 0)) (Par.q zhw)) 1 [.rows 93]
theorem zrh:zg Tryz.prog 75 (zj4).spec :=
 sK (A:=⟨[],[],[],[[0],[0,4],[2],[2]],[]⟩) zhN fM Tryz.func75 (c:=(fb Tryz.f75)) (by kernel_rfl) (Lc:=0) trivial _ _ 5 _ _ _ _ _ _ [.nilown 2 93 (.ripes [])] (by rintro a0;kernel_rfl)
def zsi (a0:Int): Tr (Bool) :=
 (.leaf (decide (a0 < 0)))
def zvt (a0:Int):=(zsi a0).run
def zyi:SpecT:=zu 0 (Par.q intP) 1 [] zsi default (Par.q boolP) 1 []
theorem z4m:zg Tryz.prog 91 (zyi).spec :=
 sK (A:=⟨[],[],[],[[0],[2]],[]⟩) zhN fM Tryz.func91 (c:=(fb Tryz.f91)) (by kernel_rfl) (Lc:=0) trivial _ _ 2 _ _ _ _ _ _ [] (by rintro a0;kernel_rfl)
def zv39:List (List Nat):=[[0,1],[0,1,7,8],[0,1,7,8,9],[0,1,5,7,8],[0,1,5,7,8,16],[4],[0,1,7,8],[4]]
noncomputable def zy39:EnvT:=⟨Tryz.prog,zad [(91,zyi)],false⟩
theorem zh39:(zy39).Ok:=zf ⟨z4m,trivial⟩
def zcf (x0:(List Int)) (x1 x2:Int): Tr (((List Int)×Int×Int)⊕((Int)⊕(Unit))) :=
 (.ite (decide (x2 < x1))
  (.guard ((0:Int)≤x2∧x2 < ((Sl.len (.ints x0):Nat):Int))
  (.bind (zvt (x0.getD x2.toNat 0)) fun v1 =>
  (.ite (v1)
   (.leaf (.inr (.inl x2)))
   (.leaf (.inl (x0,x1,i64.wrap (x2+1)))))))
  (.leaf (.inr (.inr ()))))
def zhy (x0:(List Int)) (x1 x2:Int):=zcv (fun s:(List Int)×Int×Int=>(zcf s.1 s.2.1 s.2.2).run) (x0,x1,x2)
def zayz:Ann:=⟨[],[],[],zv39,[]⟩
def zay0:=EndD.mk (LQ.v zt (LQ.k (LQ.c (.fn 91 [])) (LQ.v intP (Par.q intP)))) ⟨[0,1,7,8],[.pub 0,.nilsl 0 (.ints [])]⟩ []
def zapd:=EndD.mk (Par.q intP) ⟨[4],[]⟩ []
def zape:EndD (Unit):=⟨LQ.nil,⟨[],[]⟩,[]⟩
def zatc:St→Option LR:=L2 19 2 0 zay0 .ret zapd (.exit 0) zape (u3 zcf)
def zs39a:=sub (fb Tryz.f123) [0,1,0,1]
theorem zay1:zl (zy39).env 0 zs39a zatc :=
 zmq (A:=zayz) zh39 fM trivial (k:=za5 zs39a) (by kernel_rfl) rfl rfl (by rintro ⟨x0,x1,x2⟩;kernel_rfl)
def zdz (a0:(List Int)): Tr (Int) :=
 (.two (zhy a0 ((a0.length:Nat):Int) 0) (fun v2 =>
  (.leaf v2)) (fun v3 =>
  (.leaf (-1))))
def zft (a0:(List Int)):=(zdz a0).run
def zkv:SpecT:=zu 0 (LQ.skipR (Par.q zt) (LQ.c (.fn 91 []))) 2 [] zdz default (Par.q intP) 1 []
theorem zsj:zg Tryz.prog 123 (zkv).spec :=
 sK (A:=⟨[([0,1,0,1],zatc)],[],[],zv39,[]⟩) zh39 fM Tryz.func123 (c:=(fb Tryz.f123)) (by kernel_rfl) (Lc:=0) ⟨zay1,trivial⟩ _ _ 2 _ _ _ _ _ _ [] (by rintro a0;kernel_rfl)
noncomputable def zy40:EnvT:=⟨Tryz.prog,zad [(123,zkv)],false⟩
theorem zh40:(zy40).Ok:=zf ⟨zsj,trivial⟩
def zek (a0:(List Int)): Tr (Bool) :=
 (.bind (zft a0) fun v1 =>
 (.leaf (decide (v1≥0))))
def zd5 (a0:(List Int)):=(zek a0).run
def zik:SpecT:=zu 0 (LQ.skipR (Par.q zt) (LQ.c (.fn 91 []))) 2 [] zek default (Par.q boolP) 1 []
theorem zpc:zg Tryz.prog 90 (zik).spec :=
 sK (A:=⟨[],[],[],[[0,1],[4]],[]⟩) zh40 fM Tryz.func90 (c:=(fb Tryz.f90)) (by kernel_rfl) (Lc:=0) trivial _ _ 2 _ _ _ _ _ _ [] (by rintro a0;kernel_rfl)
noncomputable def zy41:EnvT:=⟨Tryz.prog,zad [(90,zik)],false⟩
theorem zh41:(zy41).Ok:=zf ⟨zpc,trivial⟩
def zw3 (a0:zcd): Tr (Bool) :=
 (.ite ((((((a0.Said.length:Nat):Int) != ((a0.Due.length:Nat):Int))||(decide (((a0.Said.length:Nat):Int) > 400)))||(decide (a0.Got < 0)))||(decide (a0.Got > ((a0.Said.length:Nat):Int))))
  (.leaf false)
  (.bind (zd5 a0.Due) fun v1 =>
  (.leaf (!v1))))
def zeb (a0:zcd):=(zw3 a0).run
def zk6:SpecT:=zu 0 (Par.q (Par.ofLP lineL)) 1 [] zw3 default (Par.q boolP) 1 []
theorem zmc:zg Tryz.prog 58 (zk6).spec :=
 sK (A:=⟨[],[],[],[[1],[1,28],[2],[2]],[]⟩) zh41 fM Tryz.func58 (c:=(fb Tryz.f58)) (by kernel_rfl) (Lc:=0) trivial _ _ 3 _ _ _ _ _ _ [] (by rintro a0;kernel_rfl)
noncomputable def zy42:EnvT:=⟨Tryz.prog,zad [(58,zk6),(137,zmb),(106,zj3)],false⟩
theorem zh42:(zy42).Ok:=zf ⟨zmc,zta,zoe,trivial⟩
def zzp (a0:zcd) (a1:ByteArray) (a2:Int): Tr (zcd×Int) :=
 (.bind (zeb a0) fun v1 =>
 (.ite ((!v1)||(decide (a2 < 0)))
  (.leaf (a0,2))
  (.ite (a0.Closed)
   (.leaf (a0,11))
   (.ite (decide (((a0.Said.length:Nat):Int)≥400))
    (.leaf (a0,6))
    (.guard ((zb7 a0.Said).isSome=true)
    (.guard ((Sl.len (.strs ((zb7 a0.Said).getD default))+Sl.len (.strs [a1]))*16≤140737488355328)
    (.guard ((zac a0.Due).isSome=true)
    (.guard ((Sl.len (.ints ((zac a0.Due).getD default))+Sl.len (.ints [a2]))*8≤140737488355328)
    (.leaf ({ a0 with Said:=((zb7 a0.Said).getD default)++[a1],Due:=((zac a0.Due).getD default)++[a2] },0))))))))))
def zsk (a0:zcd) (a1:ByteArray) (a2:Int):=(zzp a0 a1 a2).run
def zzq:SpecT:=zu 0 (LQ.v (Par.ofLP lineL) (LQ.v strP (Par.q intP))) 3 [] (u3 zzp) default (LQ.v (Par.ofLP lineL) (Par.q intP)) 2 []
theorem z2f:zg Tryz.prog 114 (zzq).spec :=
 sK (A:=⟨[],[],[],[[1,2,3,6],[1,2,3,6,8],[6,7],[1,2,3,6,17],[6,7],[1,2,3,6,21],[6,7],[3,6],[6,7]],[]⟩) zh42 fM Tryz.func114 (c:=(fb Tryz.f114)) (by kernel_rfl) (Lc:=0) trivial _ _ 10 _ _ _ _ _ _ [.pubB 6] (by rintro ⟨a0,a1,a2⟩;kernel_rfl)
noncomputable def zy43:EnvT:=⟨Tryz.prog,zad [(58,zk6)],false⟩
theorem zh43:(zy43).Ok:=zf ⟨zmc,trivial⟩
def zqj (a0:zcd) (a1:Int) (a2:ByteArray) (a3 a4:Int): Tr (zcd×Int) :=
 (.bind (zeb a0) fun v1 =>
 (.ite (!v1)
  (.leaf (a0,2))
  (.ite (a0.Closed)
   (.leaf (a0,11))
   (.ite (a1 != (i64.wrap (a0.Got+1)))
    (.leaf (a0,10))
    (.guard ((((decide (a1 > a3))||(decide (a1 > ((a0.Said.length:Nat):Int))))=false→((0:Int)≤(i64.wrap (a1 - 1))∧(i64.wrap (a1 - 1)) < ((Sl.len (.strs a0.Said):Nat):Int))∧True))
    (.ite (((decide (a1 > a3))||(decide (a1 > ((a0.Said.length:Nat):Int))))||(!((a0.Said.getD ((i64.wrap (a1 - 1)).toNat) .empty).toList==a2.toList)))
     (.leaf (a0,9))
     (.guard ((0:Int)≤(i64.wrap (a1 - 1))∧(i64.wrap (a1 - 1)) < ((Sl.len (.ints a0.Due):Nat):Int))
     (.ite (decide (a4≥(a0.Due.getD ((i64.wrap (a1 - 1)).toNat) 0)))
      (.leaf (a0,12))
      (.leaf ({ a0 with Got:=a1 },0))))))))))
def zk (a0:zcd) (a1:Int) (a2:ByteArray) (a3 a4:Int):=(zqj a0 a1 a2 a3 a4).run
def zvu:SpecT:=zu 0 (LQ.v (Par.ofLP lineL) (LQ.v intP (LQ.v strP (LQ.v intP (Par.q intP))))) 5 [] (u5 zqj) default (LQ.v (Par.ofLP lineL) (Par.q intP)) 2 []
theorem z2g:zg Tryz.prog 79 (zvu).spec :=
 sK (A:=⟨[],[],[],[[1,2,3,4,5,10],[1,2,3,4,5,10,12],[10,11],[1,2,3,4,5,10,17],[10,11],[1,2,3,4,5,10,21],[10,11],[1,4,5,10,28],[10,11],[1,5,10,50],[10,11],[5,10],[10,11]],[]⟩) zh43 fM Tryz.func79 (c:=(fb Tryz.f79)) (by kernel_rfl) (Lc:=0) trivial _ _ 4 _ _ _ _ _ _ [.pubB 10] (by rintro ⟨a0,a1,a2,a3,a4⟩;kernel_rfl)
noncomputable def zy44:EnvT:=⟨Tryz.prog,zad [(58,zk6)],false⟩
theorem zh44:(zy44).Ok:=zf ⟨zmc,trivial⟩
def zsl (a0:zcd) (a1 a2 a3:Int): Tr (zcd×Int) :=
 (.bind (zeb a0) fun v1 =>
 (.ite (!v1)
  (.leaf (a0,2))
  (.ite (a0.Closed)
   (.leaf (a0,11))
   (.ite ((decide (a1 < 1))||(decide (a1 > ((a0.Said.length:Nat):Int))))
    (.leaf (a0,4))
    (.ite (decide (a1≤a3))
     (.leaf (a0,5))
     (.guard ((0:Int)≤(i64.wrap (a1 - 1))∧(i64.wrap (a1 - 1)) < ((Sl.len (.ints a0.Due):Nat):Int))
     (.ite (decide (a2 < (a0.Due.getD ((i64.wrap (a1 - 1)).toNat) 0)))
      (.leaf (a0,13))
      (.leaf ({ a0 with Closed:=true },0)))))))))
def zl0 (a0:zcd) (a1 a2 a3:Int):=(zsl a0 a1 a2 a3).run
def zyj:SpecT:=zu 0 (LQ.v (Par.ofLP lineL) (LQ.v intP (LQ.v intP (Par.q intP)))) 4 [] (u4 zsl) default (LQ.v (Par.ofLP lineL) (Par.q intP)) 2 []
theorem z4n:zg Tryz.prog 82 (zyj).spec :=
 sK (A:=⟨[],[],[],[[1,2,3,4,8],[1,2,3,4,8,10],[8,9],[1,2,3,4,8,15],[8,9],[1,2,3,4,8,19],[8,9],[1,2,4,8,30],[8,9],[4,8,35],[8,9],[4,8],[8,9]],[]⟩) zh44 fM Tryz.func82 (c:=(fb Tryz.f82)) (by kernel_rfl) (Lc:=0) trivial _ _ 4 _ _ _ _ _ _ [.pubB 8] (by rintro ⟨a0,a1,a2,a3⟩;kernel_rfl)
end
