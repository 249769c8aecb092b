/-
  The functions, each by its tree.
-/
import Derived.Test.YtiacgjebngnddaaGreatXAbC
import Derived.Test.YtiacgjebngnddaaGreatXFRatio
import Derived.Test.YtiacgjebngnddaaGreatXFacts
namespace Go.Proofs.YtiacgjebngnddaaGreat.Ab
open Go Go.RowKit
open Go.IntKind (i64 u64)
set_option maxRecDepth 100000
set_option linter.unusedVariables false
set_option linter.unusedSimpArgs false
noncomputable section
def zf6 (a0:(List ByteArray)): Tr ((List ByteArray)) :=
 (.split (Sl.len (.strs a0)=0) (True)
  (.leaf [])
  (.guard ((Sl.len (.strs [])+Sl.len (.strs a0))*16≤140737488355328)
  (.leaf a0)))
def zb2 (a0:(List ByteArray)):=(zf6 a0).run
def zk1:SpecT:=zt 0 (Par.q zamz) 1 [] zf6 default (LQ.k (LQ.c (.own 0)) (Par.q zamz)) 1 [.rows 9]
theorem zrz:zf Tryz.prog 137 (zk1).spec :=
 sK (A:=⟨[],[],[],[[0],[0,4],[2],[2]],[]⟩) zhN fM Tryz.func137 (c:=(fb Tryz.f137)) (by kernel_rfl) (Lc:=0) trivial _ _ 5 _ _ _ _ _ _ [.nilown 2 9 (.strs [])] (by rintro a0;kernel_rfl)
def ziw (a0:(List Int)): Tr ((List Int)) :=
 (.split (Sl.len (.ints a0)=0) (True)
  (.leaf [])
  (.guard ((Sl.len (.ints [])+Sl.len (.ints a0))*8≤140737488355328)
  (.leaf a0)))
def z5 (a0:(List Int)):=(ziw a0).run
def zix:SpecT:=zt 0 (Par.q zf5) 1 [] ziw default (LQ.k (LQ.c (.own 0)) (Par.q zf5)) 1 [.rows 3]
theorem zm2:zf Tryz.prog 106 (zix).spec :=
 sK (A:=⟨[],[],[],[[0],[0,4],[2],[2]],[]⟩) zhN fM Tryz.func106 (c:=(fb Tryz.f106)) (by kernel_rfl) (Lc:=0) trivial _ _ 5 _ _ _ _ _ _ [.nilown 2 3 (.ints [])] (by rintro a0;kernel_rfl)
def zeh (a0:(List Power)): Tr ((List Power)) :=
 (.split (Sl.len (.powers a0)=0) (True)
  (.leaf [])
  (.guard ((Sl.len (.powers [])+Sl.len (.powers a0))*16≤140737488355328)
  (.leaf a0)))
def zd7 (a0:(List Power)):=(zeh a0).run
def zin:SpecT:=zt 0 (Par.q zm) 1 [] zeh default (LQ.k (LQ.c (.own 0)) (Par.q zm)) 1 [.rows 83]
theorem zo2:zf Tryz.prog 73 (zin).spec :=
 sK (A:=⟨[],[],[],[[0],[0,4],[2],[2]],[]⟩) zhN fM Tryz.func73 (c:=(fb Tryz.f73)) (by kernel_rfl) (Lc:=0) trivial _ _ 5 _ _ _ _ _ _ [.nilown 2 83 (.powers [])] (by rintro a0;kernel_rfl)
def zdl (a0:(List Power)): Tr ((List Power)) :=
 (.split (Sl.len (.powers a0)=0) (True)
  (.leaf [])
  (.guard ((Sl.len (.powers [])+Sl.len (.powers a0))*16≤140737488355328)
  (.leaf a0)))
def zaj (a0:(List Power)):=(zdl a0).run
def zdm:SpecT:=zt 0 (Par.q zm) 1 [] zdl default (Par.q zm) 1 []
theorem zf7:zf Tryz.prog 73 (zdm).spec :=
 sK (A:=⟨[],[],[],[[0],[0,4],[2],[2]],[]⟩) zhN fM Tryz.func73 (c:=(fb Tryz.f73)) (by kernel_rfl) (Lc:=0) trivial _ _ 5 _ _ _ _ _ _ [.pub 2] (by rintro a0;kernel_rfl)
def ze8 (a0:(List Wait)): Tr ((List Wait)) :=
 (.split (Sl.len (.waits a0)=0) (True)
  (.leaf [])
  (.guard ((Sl.len (.waits [])+Sl.len (.waits a0))*64≤140737488355328)
  (.leaf a0)))
def zq (a0:(List Wait)):=(ze8 a0).run
def zbj:SpecT:=zt 0 (Par.q ziq) 1 [] ze8 default (LQ.k (LQ.c (.own 0)) (Par.q ziq)) 1 [.rows 78]
theorem zcm:zf Tryz.prog 64 (zbj).spec :=
 sK (A:=⟨[],[],[],[[0],[0,4],[2],[2]],[]⟩) zhN fM Tryz.func64 (c:=(fb Tryz.f64)) (by kernel_rfl) (Lc:=0) trivial _ _ 5 _ _ _ _ _ _ [.nilown 2 78 (.waits [])] (by rintro a0;kernel_rfl)
def zei (a0:(List Asked)): Tr ((List Asked)) :=
 (.split (Sl.len (.asked a0)=0) (True)
  (.leaf [])
  (.guard ((Sl.len (.asked [])+Sl.len (.asked a0))*88≤140737488355328)
  (.leaf a0)))
def zan (a0:(List Asked)):=(zei a0).run
def zej:SpecT:=zt 0 (Par.q zeg) 1 [] zei default (LQ.k (LQ.c (.own 0)) (Par.q zeg)) 1 [.rows 90]
theorem zhf:zf Tryz.prog 118 (zej).spec :=
 sK (A:=⟨[],[],[],[[0],[0,4],[2],[2]],[]⟩) zhN fM Tryz.func118 (c:=(fb Tryz.f118)) (by kernel_rfl) (Lc:=0) trivial _ _ 5 _ _ _ _ _ _ [.nilown 2 90 (.asked [])] (by rintro a0;kernel_rfl)
def zd8 (a0:(List Packet)): Tr ((List Packet)) :=
 (.split (Sl.len (.packets a0)=0) (True)
  (.leaf [])
  (.guard ((Sl.len (.packets [])+Sl.len (.packets a0))*80≤140737488355328)
  (.leaf a0)))
def zaz (a0:(List Packet)):=(zd8 a0).run
def zhg:SpecT:=zt 0 (Par.q zdd) 1 [] zd8 default (LQ.k (LQ.c (.own 0)) (Par.q zdd)) 1 [.rows 73]
theorem zn2:zf Tryz.prog 119 (zhg).spec :=
 sK (A:=⟨[],[],[],[[0],[0,4],[2],[2]],[]⟩) zhN fM Tryz.func119 (c:=(fb Tryz.f119)) (by kernel_rfl) (Lc:=0) trivial _ _ 5 _ _ _ _ _ _ [.nilown 2 73 (.packets [])] (by rintro a0;kernel_rfl)
def ze9 (a0:(List Ripe)): Tr ((List Ripe)) :=
 (.split (Sl.len (.ripes a0)=0) (True)
  (.leaf [])
  (.guard ((Sl.len (.ripes [])+Sl.len (.ripes a0))*16≤140737488355328)
  (.leaf a0)))
def zek (a0:(List Ripe)):=(ze9 a0).run
def ziy:SpecT:=zt 0 (Par.q zub) 1 [] ze9 default (LQ.k (LQ.c (.own 0)) (Par.q zub)) 1 [.rows 93]
theorem zpz:zf Tryz.prog 75 (ziy).spec :=
 sK (A:=⟨[],[],[],[[0],[0,4],[2],[2]],[]⟩) zhN fM Tryz.func75 (c:=(fb Tryz.f75)) (by kernel_rfl) (Lc:=0) trivial _ _ 5 _ _ _ _ _ _ [.nilown 2 93 (.ripes [])] (by rintro a0;kernel_rfl)
def zq3 (a0:Int): Tr (Bool) :=
 (.leaf (decide (a0 < 0)))
def zuh (a0:Int):=(zq3 a0).run
def zw2:SpecT:=zt 0 (Par.q intP) 1 [] zq3 default (Par.q boolP) 1 []
theorem z21:zf Tryz.prog 91 (zw2).spec :=
 sK (A:=⟨[],[],[],[[0],[2]],[]⟩) zhN fM Tryz.func91 (c:=(fb Tryz.f91)) (by kernel_rfl) (Lc:=0) trivial _ _ 2 _ _ _ _ _ _ [] (by rintro a0;kernel_rfl)
def zv39:List (List Nat):=[[0,1],[0,1,7,8],[0,1,7,8,9],[0,1,5,7,8],[0,1,5,7,8,16],[4],[0,1,7,8],[4]]
noncomputable def zy39:EnvT:=⟨Tryz.prog,zad [(91,zw2)]⟩
theorem zh39:(zy39).Ok:=ze ⟨z21,trivial⟩
def zb9 (x0:(List Int)) (x1 x2:Int): Tr (((List Int)×Int×Int)⊕((Int)⊕(Unit))) :=
 (.ite (decide (x2 < x1))
  (.guard ((0:Int)≤x2∧x2 < ((Sl.len (.ints x0):Nat):Int))
  (.bind (zuh (x0.getD x2.toNat 0)) fun v1 =>
  (.ite (v1)
   (.leaf (.inr (.inl x2)))
   (.leaf (.inl (x0,x1,i64.wrap (x2+1)))))))
  (.leaf (.inr (.inr ()))))
def zgx (x0:(List Int)) (x1 x2:Int):=zdv (fun s:(List Int)×Int×Int=>(zb9 s.1 s.2.1 s.2.2).run) (x0,x1,x2)
def zavo:Ann:=⟨[],[],[],zv39,[]⟩
def zavp:=EndD.mk (LQ.v zf5 (LQ.k (LQ.c (.fn 91 [])) (LQ.v intP (Par.q intP)))) ⟨[0,1,7,8],[.pub 0,.nilsl 0 (.ints [])]⟩ []
def zanb:=EndD.mk (Par.q intP) ⟨[4],[]⟩ []
def zanc:EndD (Unit):=⟨LQ.nil,⟨[],[]⟩,[]⟩
def zarm:St→Option LR:=L2 19 2 0 zavp .ret zanb (.exit 0) zanc (u3 zb9)
def zs39a:=sub (fb Tryz.f123) [0,1,0,1]
theorem zavq:zo (zy39).env 0 zs39a zarm :=
 zpm (A:=zavo) zh39 fM trivial (k:=zb5 zs39a) (by kernel_rfl) rfl rfl (by rintro ⟨x0,x1,x2⟩;kernel_rfl)
def zdf (a0:(List Int)): Tr (Int) :=
 (.two (zgx a0 ((a0.length:Nat):Int) 0) (fun v2 =>
  (.leaf v2)) (fun v3 =>
  (.leaf (-1))))
def zfa (a0:(List Int)):=(zdf a0).run
def zjo:SpecT:=zt 0 (LQ.skipR (Par.q zf5) (LQ.c (.fn 91 []))) 2 [] zdf default (Par.q intP) 1 []
theorem zq4:zf Tryz.prog 123 (zjo).spec :=
 sK (A:=⟨[([0,1,0,1],zarm)],[],[],zv39,[]⟩) zh39 fM Tryz.func123 (c:=(fb Tryz.f123)) (by kernel_rfl) (Lc:=0) ⟨zavq,trivial⟩ _ _ 2 _ _ _ _ _ _ [] (by rintro a0;kernel_rfl)
noncomputable def zy40:EnvT:=⟨Tryz.prog,zad [(123,zjo)]⟩
theorem zh40:(zy40).Ok:=ze ⟨zq4,trivial⟩
def zd9 (a0:(List Int)): Tr (Bool) :=
 (.bind (zfa a0) fun v1 =>
 (.leaf (decide (v1≥0))))
def zdn (a0:(List Int)):=(zd9 a0).run
def zhh:SpecT:=zt 0 (LQ.skipR (Par.q zf5) (LQ.c (.fn 91 []))) 2 [] zd9 default (Par.q boolP) 1 []
theorem zn3:zf Tryz.prog 90 (zhh).spec :=
 sK (A:=⟨[],[],[],[[0,1],[4]],[]⟩) zh40 fM Tryz.func90 (c:=(fb Tryz.f90)) (by kernel_rfl) (Lc:=0) trivial _ _ 2 _ _ _ _ _ _ [] (by rintro a0;kernel_rfl)
noncomputable def zy41:EnvT:=⟨Tryz.prog,zad [(90,zhh)]⟩
theorem zh41:(zy41).Ok:=ze ⟨zn3,trivial⟩
def zvk (a0:zgz): Tr (Bool) :=
 (.ite ((((((a0.Said.length:Nat):Int) != ((a0.Due.length:Nat):Int))||(decide (((a0.Said.length:Nat):Int) > 400)))||(decide (a0.Got < 0)))||(decide (a0.Got > ((a0.Said.length:Nat):Int))))
  (.leaf false)
  (.bind (zdn a0.Due) fun v1 =>
  (.leaf (!v1))))
def zdy (a0:zgz):=(zvk a0).run
def zjz:SpecT:=zt 0 (Par.q (Par.ofLP lineL)) 1 [] zvk default (Par.q boolP) 1 []
theorem zk2:zf Tryz.prog 58 (zjz).spec :=
 sK (A:=⟨[],[],[],[[1],[1,28],[2],[2]],[]⟩) zh41 fM Tryz.func58 (c:=(fb Tryz.f58)) (by kernel_rfl) (Lc:=0) trivial _ _ 3 _ _ _ _ _ _ [] (by rintro a0;kernel_rfl)
noncomputable def zy42:EnvT:=⟨Tryz.prog,zad [(58,zjz),(137,zk1),(106,zix)]⟩
theorem zh42:(zy42).Ok:=ze ⟨zk2,zrz,zm2,trivial⟩
def zx4 (a0:zgz) (a1:ByteArray) (a2:Int): Tr (zgz×Int) :=
 (.bind (zdy a0) fun v1 =>
 (.ite ((!v1)||(decide (a2 < 0)))
  (.leaf (a0,2))
  (.ite (a0.Closed)
   (.leaf (a0,11))
   (.ite (decide (((a0.Said.length:Nat):Int)≥400))
    (.leaf (a0,6))
    (.guard ((zb2 a0.Said).isSome=true)
    (.guard ((Sl.len (.strs ((zb2 a0.Said).getD default))+Sl.len (.strs [a1]))*16≤140737488355328)
    (.guard ((z5 a0.Due).isSome=true)
    (.guard ((Sl.len (.ints ((z5 a0.Due).getD default))+Sl.len (.ints [a2]))*8≤140737488355328)
    (.leaf ({ a0 with Said:=((zb2 a0.Said).getD default)++[a1],Due:=((z5 a0.Due).getD default)++[a2] },0))))))))))
def zq5 (a0:zgz) (a1:ByteArray) (a2:Int):=(zx4 a0 a1 a2).run
def zx5:SpecT:=zt 0 (LQ.v (Par.ofLP lineL) (LQ.v strP (Par.q intP))) 3 [] (u3 zx4) default (LQ.v (Par.ofLP lineL) (Par.q intP)) 2 []
theorem z0y:zf Tryz.prog 114 (zx5).spec :=
 sK (A:=⟨[],[],[],[[1,2,3,6],[1,2,3,6,8],[6,7],[1,2,3,6,17],[6,7],[1,2,3,6,21],[6,7],[3,6],[6,7]],[]⟩) zh42 fM Tryz.func114 (c:=(fb Tryz.f114)) (by kernel_rfl) (Lc:=0) trivial _ _ 10 _ _ _ _ _ _ [.pubB 6] (by rintro ⟨a0,a1,a2⟩;kernel_rfl)
noncomputable def zy43:EnvT:=⟨Tryz.prog,zad [(58,zjz)]⟩
theorem zh43:(zy43).Ok:=ze ⟨zk2,trivial⟩
def zo3 (a0:zgz) (a1:Int) (a2:ByteArray) (a3 a4:Int): Tr (zgz×Int) :=
 (.bind (zdy a0) fun v1 =>
 (.ite (!v1)
  (.leaf (a0,2))
  (.ite (a0.Closed)
   (.leaf (a0,11))
   (.ite (a1 != (i64.wrap (a0.Got+1)))
    (.leaf (a0,10))
    (.guard ((((decide (a1 > a3))||(decide (a1 > ((a0.Said.length:Nat):Int))))=false→((0:Int)≤(i64.wrap (a1 - 1))∧(i64.wrap (a1 - 1)) < ((Sl.len (.strs a0.Said):Nat):Int))∧True))
    (.ite (((decide (a1 > a3))||(decide (a1 > ((a0.Said.length:Nat):Int))))||(!((a0.Said.getD ((i64.wrap (a1 - 1)).toNat) .empty).toList==a2.toList)))
     (.leaf (a0,9))
     (.guard ((0:Int)≤(i64.wrap (a1 - 1))∧(i64.wrap (a1 - 1)) < ((Sl.len (.ints a0.Due):Nat):Int))
     (.ite (decide (a4≥(a0.Due.getD ((i64.wrap (a1 - 1)).toNat) 0)))
      (.leaf (a0,12))
      (.leaf ({ a0 with Got:=a1 },0))))))))))
def zg (a0:zgz) (a1:Int) (a2:ByteArray) (a3 a4:Int):=(zo3 a0 a1 a2 a3 a4).run
def zui:SpecT:=zt 0 (LQ.v (Par.ofLP lineL) (LQ.v intP (LQ.v strP (LQ.v intP (Par.q intP))))) 5 [] (u5 zo3) default (LQ.v (Par.ofLP lineL) (Par.q intP)) 2 []
theorem z0z:zf Tryz.prog 79 (zui).spec :=
 sK (A:=⟨[],[],[],[[1,2,3,4,5,10],[1,2,3,4,5,10,12],[10,11],[1,2,3,4,5,10,17],[10,11],[1,2,3,4,5,10,21],[10,11],[1,4,5,10,28],[10,11],[1,5,10,50],[10,11],[5,10],[10,11]],[]⟩) zh43 fM Tryz.func79 (c:=(fb Tryz.f79)) (by kernel_rfl) (Lc:=0) trivial _ _ 4 _ _ _ _ _ _ [.pubB 10] (by rintro ⟨a0,a1,a2,a3,a4⟩;kernel_rfl)
noncomputable def zy44:EnvT:=⟨Tryz.prog,zad [(58,zjz)]⟩
theorem zh44:(zy44).Ok:=ze ⟨zk2,trivial⟩
def zq6 (a0:zgz) (a1 a2 a3:Int): Tr (zgz×Int) :=
 (.bind (zdy a0) fun v1 =>
 (.ite (!v1)
  (.leaf (a0,2))
  (.ite (a0.Closed)
   (.leaf (a0,11))
   (.ite ((decide (a1 < 1))||(decide (a1 > ((a0.Said.length:Nat):Int))))
    (.leaf (a0,4))
    (.ite (decide (a1≤a3))
     (.leaf (a0,5))
     (.guard ((0:Int)≤(i64.wrap (a1 - 1))∧(i64.wrap (a1 - 1)) < ((Sl.len (.ints a0.Due):Nat):Int))
     (.ite (decide (a2 < (a0.Due.getD ((i64.wrap (a1 - 1)).toNat) 0)))
      (.leaf (a0,13))
      (.leaf ({ a0 with Closed:=true },0)))))))))
def zkl (a0:zgz) (a1 a2 a3:Int):=(zq6 a0 a1 a2 a3).run
def zw3:SpecT:=zt 0 (LQ.v (Par.ofLP lineL) (LQ.v intP (LQ.v intP (Par.q intP)))) 4 [] (u4 zq6) default (LQ.v (Par.ofLP lineL) (Par.q intP)) 2 []
theorem z22:zf Tryz.prog 82 (zw3).spec :=
 sK (A:=⟨[],[],[],[[1,2,3,4,8],[1,2,3,4,8,10],[8,9],[1,2,3,4,8,15],[8,9],[1,2,3,4,8,19],[8,9],[1,2,4,8,30],[8,9],[4,8,35],[8,9],[4,8],[8,9]],[]⟩) zh44 fM Tryz.func82 (c:=(fb Tryz.f82)) (by kernel_rfl) (Lc:=0) trivial _ _ 4 _ _ _ _ _ _ [.pubB 8] (by rintro ⟨a0,a1,a2,a3⟩;kernel_rfl)
end
