/-
  The functions, each by its tree.
-/
import Derived.Test.YtiacgjebngnddaaGreatXAbC
import Derived.Test.YtiacgjebngnddaaGreatXFRatio
import Derived.Test.YtiacgjebngnddaaGreatXFacts
namespace Go.Proofs.YtiacgjebngnddaaGreat.Ab
open Go Go.RowKit
open Go.IntKind (i64 u64)
set_option maxRecDepth 100000
set_option linter.unusedVariables false
set_option linter.unusedSimpArgs false
noncomputable section
def zf4 (a0:(List ByteArray)): Tr ((List ByteArray)) :=
 (.split (Sl.len (.strs a0)=0) (True)
  (.leaf [])
  (.guard ((Sl.len (.strs [])+Sl.len (.strs a0))*16≤140737488355328)
  (.leaf a0)))
def zb4 (a0:(List ByteArray)):=(zf4 a0).run
def zku:SpecT:=zt 0 (Par.q zam9) 1 [] zf4 default (LQ.k (LQ.c (.own 0)) (Par.q zam9)) 1 [.rows 9]
theorem zrw:zg Tryz.prog 137 (zku).spec :=
 sK (A:=⟨[],[],[],[[0],[0,4],[2],[2]],[]⟩) zhN fM Tryz.func137 (c:=(fb Tryz.f137)) (by kernel_rfl) (Lc:=0) trivial _ _ 5 _ _ _ _ _ _ [.nilown 2 9 (.strs [])] (by rintro a0;kernel_rfl)
def ziu (a0:(List Int)): Tr ((List Int)) :=
 (.split (Sl.len (.ints a0)=0) (True)
  (.leaf [])
  (.guard ((Sl.len (.ints [])+Sl.len (.ints a0))*8≤140737488355328)
  (.leaf a0)))
def z6 (a0:(List Int)):=(ziu a0).run
def ziv:SpecT:=zt 0 (Par.q zf3) 1 [] ziu default (LQ.k (LQ.c (.own 0)) (Par.q zf3)) 1 [.rows 3]
theorem zmz:zg Tryz.prog 106 (ziv).spec :=
 sK (A:=⟨[],[],[],[[0],[0,4],[2],[2]],[]⟩) zhN fM Tryz.func106 (c:=(fb Tryz.f106)) (by kernel_rfl) (Lc:=0) trivial _ _ 5 _ _ _ _ _ _ [.nilown 2 3 (.ints [])] (by rintro a0;kernel_rfl)
def zeh (a0:(List Power)): Tr ((List Power)) :=
 (.split (Sl.len (.powers a0)=0) (True)
  (.leaf [])
  (.guard ((Sl.len (.powers [])+Sl.len (.powers a0))*16≤140737488355328)
  (.leaf a0)))
def zd5 (a0:(List Power)):=(zeh a0).run
def zij:SpecT:=zt 0 (Par.q zo) 1 [] zeh default (LQ.k (LQ.c (.own 0)) (Par.q zo)) 1 [.rows 83]
theorem zo3:zg Tryz.prog 73 (zij).spec :=
 sK (A:=⟨[],[],[],[[0],[0,4],[2],[2]],[]⟩) zhN fM Tryz.func73 (c:=(fb Tryz.f73)) (by kernel_rfl) (Lc:=0) trivial _ _ 5 _ _ _ _ _ _ [.nilown 2 83 (.powers [])] (by rintro a0;kernel_rfl)
def zdl (a0:(List Power)): Tr ((List Power)) :=
 (.split (Sl.len (.powers a0)=0) (True)
  (.leaf [])
  (.guard ((Sl.len (.powers [])+Sl.len (.powers a0))*16≤140737488355328)
  (.leaf a0)))
def zai (a0:(List Power)):=(zdl a0).run
def zdm:SpecT:=zt 0 (Par.q zo) 1 [] zdl default (Par.q zo) 1 []
theorem zf5:zg Tryz.prog 73 (zdm).spec :=
 sK (A:=⟨[],[],[],[[0],[0,4],[2],[2]],[]⟩) zhN fM Tryz.func73 (c:=(fb Tryz.f73)) (by kernel_rfl) (Lc:=0) trivial _ _ 5 _ _ _ _ _ _ [.pub 2] (by rintro a0;kernel_rfl)
def ze8 (a0:(List Wait)): Tr ((List Wait)) :=
 (.split (Sl.len (.waits a0)=0) (True)
  (.leaf [])
  (.guard ((Sl.len (.waits [])+Sl.len (.waits a0))*64≤140737488355328)
  (.leaf a0)))
def zr (a0:(List Wait)):=(ze8 a0).run
def zbm:SpecT:=zt 0 (Par.q zjl) 1 [] ze8 default (LQ.k (LQ.c (.own 0)) (Par.q zjl)) 1 [.rows 78]
theorem zcm:zg Tryz.prog 64 (zbm).spec :=
 sK (A:=⟨[],[],[],[[0],[0,4],[2],[2]],[]⟩) zhN fM Tryz.func64 (c:=(fb Tryz.f64)) (by kernel_rfl) (Lc:=0) trivial _ _ 5 _ _ _ _ _ _ [.nilown 2 78 (.waits [])] (by rintro a0;kernel_rfl)
def zei (a0:(List Asked)): Tr ((List Asked)) :=
 (.split (Sl.len (.asked a0)=0) (True)
  (.leaf [])
  (.guard ((Sl.len (.asked [])+Sl.len (.asked a0))*88≤140737488355328)
  (.leaf a0)))
def zao (a0:(List Asked)):=(zei a0).run
def zej:SpecT:=zt 0 (Par.q zeg) 1 [] zei default (LQ.k (LQ.c (.own 0)) (Par.q zeg)) 1 [.rows 90]
theorem zhd:zg Tryz.prog 118 (zej).spec :=
 sK (A:=⟨[],[],[],[[0],[0,4],[2],[2]],[]⟩) zhN fM Tryz.func118 (c:=(fb Tryz.f118)) (by kernel_rfl) (Lc:=0) trivial _ _ 5 _ _ _ _ _ _ [.nilown 2 90 (.asked [])] (by rintro a0;kernel_rfl)
def zd6 (a0:(List Packet)): Tr ((List Packet)) :=
 (.split (Sl.len (.packets a0)=0) (True)
  (.leaf [])
  (.guard ((Sl.len (.packets [])+Sl.len (.packets a0))*80≤140737488355328)
  (.leaf a0)))
def za4 (a0:(List Packet)):=(zd6 a0).run
def zhe:SpecT:=zt 0 (Par.q zdc) 1 [] zd6 default (LQ.k (LQ.c (.own 0)) (Par.q zdc)) 1 [.rows 73]
theorem zn1:zg Tryz.prog 119 (zhe).spec :=
 sK (A:=⟨[],[],[],[[0],[0,4],[2],[2]],[]⟩) zhN fM Tryz.func119 (c:=(fb Tryz.f119)) (by kernel_rfl) (Lc:=0) trivial _ _ 5 _ _ _ _ _ _ [.nilown 2 73 (.packets [])] (by rintro a0;kernel_rfl)
def ze9 (a0:(List Ripe)): Tr ((List Ripe)) :=
 (.split (Sl.len (.ripes a0)=0) (True)
  (.leaf [])
  (.guard ((Sl.len (.ripes [])+Sl.len (.ripes a0))*16≤140737488355328)
  (.leaf a0)))
def zek (a0:(List Ripe)):=(ze9 a0).run
def ziw:SpecT:=zt 0 (Par.q zua) 1 [] ze9 default (LQ.k (LQ.c (.own 0)) (Par.q zua)) 1 [.rows 93]
theorem zpz:zg Tryz.prog 75 (ziw).spec :=
 sK (A:=⟨[],[],[],[[0],[0,4],[2],[2]],[]⟩) zhN fM Tryz.func75 (c:=(fb Tryz.f75)) (by kernel_rfl) (Lc:=0) trivial _ _ 5 _ _ _ _ _ _ [.nilown 2 93 (.ripes [])] (by rintro a0;kernel_rfl)
def zqz (a0:Int): Tr (Bool) :=
 (.leaf (decide (a0 < 0)))
def zug (a0:Int):=(zqz a0).run
def zwy:SpecT:=zt 0 (Par.q intP) 1 [] zqz default (Par.q boolP) 1 []
theorem z25:zg Tryz.prog 91 (zwy).spec :=
 sK (A:=⟨[],[],[],[[0],[2]],[]⟩) zhN fM Tryz.func91 (c:=(fb Tryz.f91)) (by kernel_rfl) (Lc:=0) trivial _ _ 2 _ _ _ _ _ _ [] (by rintro a0;kernel_rfl)
def zv39:List (List Nat):=[[0,1],[0,1,7,8],[0,1,7,8,9],[0,1,5,7,8],[0,1,5,7,8,16],[4],[0,1,7,8],[4]]
noncomputable def zy39:EnvT:=⟨Tryz.prog,zad [(91,zwy)]⟩
theorem zh39:(zy39).Ok:=zf ⟨z25,trivial⟩
def zcb (x0:(List Int)) (x1 x2:Int): Tr (((List Int)×Int×Int)⊕((Int)⊕(Unit))) :=
 (.ite (decide (x2 < x1))
  (.guard ((0:Int)≤x2∧x2 < ((Sl.len (.ints x0):Nat):Int))
  (.bind (zug (x0.getD x2.toNat 0)) fun v1 =>
  (.ite (v1)
   (.leaf (.inr (.inl x2)))
   (.leaf (.inl (x0,x1,i64.wrap (x2+1)))))))
  (.leaf (.inr (.inr ()))))
def zgv (x0:(List Int)) (x1 x2:Int):=zde (fun s:(List Int)×Int×Int=>(zcb s.1 s.2.1 s.2.2).run) (x0,x1,x2)
def zavl:Ann:=⟨[],[],[],zv39,[]⟩
def zavm:=EndD.mk (LQ.v zf3 (LQ.k (LQ.c (.fn 91 [])) (LQ.v intP (Par.q intP)))) ⟨[0,1,7,8],[.pub 0,.nilsl 0 (.ints [])]⟩ []
def zank:=EndD.mk (Par.q intP) ⟨[4],[]⟩ []
def zanl:EndD (Unit):=⟨LQ.nil,⟨[],[]⟩,[]⟩
def zarp:St→Option LR:=L2 19 2 0 zavm .ret zank (.exit 0) zanl (u3 zcb)
def zs39a:=sub (fb Tryz.f123) [0,1,0,1]
theorem zavn:zq (zy39).env 0 zs39a zarp :=
 zou (A:=zavl) zh39 fM trivial (k:=zca zs39a) (by kernel_rfl) rfl rfl (by rintro ⟨x0,x1,x2⟩;kernel_rfl)
def zdd (a0:(List Int)): Tr (Int) :=
 (.two (zgv a0 ((a0.length:Nat):Int) 0) (fun v2 =>
  (.leaf v2)) (fun v3 =>
  (.leaf (-1))))
def zfa (a0:(List Int)):=(zdd a0).run
def zjm:SpecT:=zt 0 (LQ.skipR (Par.q zf3) (LQ.c (.fn 91 []))) 2 [] zdd default (Par.q intP) 1 []
theorem zq0:zg Tryz.prog 123 (zjm).spec :=
 sK (A:=⟨[([0,1,0,1],zarp)],[],[],zv39,[]⟩) zh39 fM Tryz.func123 (c:=(fb Tryz.f123)) (by kernel_rfl) (Lc:=0) ⟨zavn,trivial⟩ _ _ 2 _ _ _ _ _ _ [] (by rintro a0;kernel_rfl)
noncomputable def zy40:EnvT:=⟨Tryz.prog,zad [(123,zjm)]⟩
theorem zh40:(zy40).Ok:=zf ⟨zq0,trivial⟩
def zd7 (a0:(List Int)): Tr (Bool) :=
 (.bind (zfa a0) fun v1 =>
 (.leaf (decide (v1≥0))))
def zdn (a0:(List Int)):=(zd7 a0).run
def zhf:SpecT:=zt 0 (LQ.skipR (Par.q zf3) (LQ.c (.fn 91 []))) 2 [] zd7 default (Par.q boolP) 1 []
theorem zn2:zg Tryz.prog 90 (zhf).spec :=
 sK (A:=⟨[],[],[],[[0,1],[4]],[]⟩) zh40 fM Tryz.func90 (c:=(fb Tryz.f90)) (by kernel_rfl) (Lc:=0) trivial _ _ 2 _ _ _ _ _ _ [] (by rintro a0;kernel_rfl)
noncomputable def zy41:EnvT:=⟨Tryz.prog,zad [(90,zhf)]⟩
theorem zh41:(zy41).Ok:=zf ⟨zn2,trivial⟩
def zvf (a0:zim): Tr (Bool) :=
 (.ite ((((((a0.Said.length:Nat):Int) != ((a0.Due.length:Nat):Int))||(decide (((a0.Said.length:Nat):Int) > 400)))||(decide (a0.Got < 0)))||(decide (a0.Got > ((a0.Said.length:Nat):Int))))
  (.leaf false)
  (.bind (zdn a0.Due) fun v1 =>
  (.leaf (!v1))))
def zdv (a0:zim):=(zvf a0).run
def zjv:SpecT:=zt 0 (Par.q (Par.ofLP lineL)) 1 [] zvf default (Par.q boolP) 1 []
theorem zkv:zg Tryz.prog 58 (zjv).spec :=
 sK (A:=⟨[],[],[],[[1],[1,28],[2],[2]],[]⟩) zh41 fM Tryz.func58 (c:=(fb Tryz.f58)) (by kernel_rfl) (Lc:=0) trivial _ _ 3 _ _ _ _ _ _ [] (by rintro a0;kernel_rfl)
noncomputable def zy42:EnvT:=⟨Tryz.prog,zad [(58,zjv),(137,zku),(106,ziv)]⟩
theorem zh42:(zy42).Ok:=zf ⟨zkv,zrw,zmz,trivial⟩
def zx2 (a0:zim) (a1:ByteArray) (a2:Int): Tr (zim×Int) :=
 (.bind (zdv a0) fun v1 =>
 (.ite ((!v1)||(decide (a2 < 0)))
  (.leaf (a0,2))
  (.ite (a0.Closed)
   (.leaf (a0,11))
   (.ite (decide (((a0.Said.length:Nat):Int)≥400))
    (.leaf (a0,6))
    (.guard ((zb4 a0.Said).isSome=true)
    (.guard ((Sl.len (.strs ((zb4 a0.Said).getD default))+Sl.len (.strs [a1]))*16≤140737488355328)
    (.guard ((z6 a0.Due).isSome=true)
    (.guard ((Sl.len (.ints ((z6 a0.Due).getD default))+Sl.len (.ints [a2]))*8≤140737488355328)
    (.leaf ({ a0 with Said:=((zb4 a0.Said).getD default)++[a1],Due:=((z6 a0.Due).getD default)++[a2] },0))))))))))
def zq1 (a0:zim) (a1:ByteArray) (a2:Int):=(zx2 a0 a1 a2).run
def zx3:SpecT:=zt 0 (LQ.v (Par.ofLP lineL) (LQ.v strP (Par.q intP))) 3 [] (u3 zx2) default (LQ.v (Par.ofLP lineL) (Par.q intP)) 2 []
theorem z0x:zg Tryz.prog 114 (zx3).spec :=
 sK (A:=⟨[],[],[],[[1,2,3,6],[1,2,3,6,8],[6,7],[1,2,3,6,17],[6,7],[1,2,3,6,21],[6,7],[3,6],[6,7]],[]⟩) zh42 fM Tryz.func114 (c:=(fb Tryz.f114)) (by kernel_rfl) (Lc:=0) trivial _ _ 10 _ _ _ _ _ _ [.pubB 6] (by rintro ⟨a0,a1,a2⟩;kernel_rfl)
noncomputable def zy43:EnvT:=⟨Tryz.prog,zad [(58,zjv)]⟩
theorem zh43:(zy43).Ok:=zf ⟨zkv,trivial⟩
def zo4 (a0:zim) (a1:Int) (a2:ByteArray) (a3 a4:Int): Tr (zim×Int) :=
 (.bind (zdv a0) fun v1 =>
 (.ite (!v1)
  (.leaf (a0,2))
  (.ite (a0.Closed)
   (.leaf (a0,11))
   (.ite (a1 != (i64.wrap (a0.Got+1)))
    (.leaf (a0,10))
    (.guard ((((decide (a1 > a3))||(decide (a1 > ((a0.Said.length:Nat):Int))))=false→((0:Int)≤(i64.wrap (a1 - 1))∧(i64.wrap (a1 - 1)) < ((Sl.len (.strs a0.Said):Nat):Int))∧True))
    (.ite (((decide (a1 > a3))||(decide (a1 > ((a0.Said.length:Nat):Int))))||(!((a0.Said.getD ((i64.wrap (a1 - 1)).toNat) .empty).toList==a2.toList)))
     (.leaf (a0,9))
     (.guard ((0:Int)≤(i64.wrap (a1 - 1))∧(i64.wrap (a1 - 1)) < ((Sl.len (.ints a0.Due):Nat):Int))
     (.ite (decide (a4≥(a0.Due.getD ((i64.wrap (a1 - 1)).toNat) 0)))
      (.leaf (a0,12))
      (.leaf ({ a0 with Got:=a1 },0))))))))))
def zi (a0:zim) (a1:Int) (a2:ByteArray) (a3 a4:Int):=(zo4 a0 a1 a2 a3 a4).run
def zuh:SpecT:=zt 0 (LQ.v (Par.ofLP lineL) (LQ.v intP (LQ.v strP (LQ.v intP (Par.q intP))))) 5 [] (u5 zo4) default (LQ.v (Par.ofLP lineL) (Par.q intP)) 2 []
theorem z0y:zg Tryz.prog 79 (zuh).spec :=
 sK (A:=⟨[],[],[],[[1,2,3,4,5,10],[1,2,3,4,5,10,12],[10,11],[1,2,3,4,5,10,17],[10,11],[1,2,3,4,5,10,21],[10,11],[1,4,5,10,28],[10,11],[1,5,10,50],[10,11],[5,10],[10,11]],[]⟩) zh43 fM Tryz.func79 (c:=(fb Tryz.f79)) (by kernel_rfl) (Lc:=0) trivial _ _ 4 _ _ _ _ _ _ [.pubB 10] (by rintro ⟨a0,a1,a2,a3,a4⟩;kernel_rfl)
noncomputable def zy44:EnvT:=⟨Tryz.prog,zad [(58,zjv)]⟩
theorem zh44:(zy44).Ok:=zf ⟨zkv,trivial⟩
def zq2 (a0:zim) (a1 a2 a3:Int): Tr (zim×Int) :=
 (.bind (zdv a0) fun v1 =>
 (.ite (!v1)
  (.leaf (a0,2))
  (.ite (a0.Closed)
   (.leaf (a0,11))
   (.ite ((decide (a1 < 1))||(decide (a1 > ((a0.Said.length:Nat):Int))))
    (.leaf (a0,4))
    (.ite (decide (a1≤a3))
     (.leaf (a0,5))
     (.guard ((0:Int)≤(i64.wrap (a1 - 1))∧(i64.wrap (a1 - 1)) < ((Sl.len (.ints a0.Due):Nat):Int))
     (.ite (decide (a2 < (a0.Due.getD ((i64.wrap (a1 - 1)).toNat) 0)))
      (.leaf (a0,13))
      (.leaf ({ a0 with Closed:=true },0)))))))))
def zki (a0:zim) (a1 a2 a3:Int):=(zq2 a0 a1 a2 a3).run
def zwz:SpecT:=zt 0 (LQ.v (Par.ofLP lineL) (LQ.v intP (LQ.v intP (Par.q intP)))) 4 [] (u4 zq2) default (LQ.v (Par.ofLP lineL) (Par.q intP)) 2 []
theorem z27:zg Tryz.prog 82 (zwz).spec :=
 sK (A:=⟨[],[],[],[[1,2,3,4,8],[1,2,3,4,8,10],[8,9],[1,2,3,4,8,15],[8,9],[1,2,3,4,8,19],[8,9],[1,2,4,8,30],[8,9],[4,8,35],[8,9],[4,8],[8,9]],[]⟩) zh44 fM Tryz.func82 (c:=(fb Tryz.f82)) (by kernel_rfl) (Lc:=0) trivial _ _ 4 _ _ _ _ _ _ [.pubB 8] (by rintro ⟨a0,a1,a2,a3⟩;kernel_rfl)
end
