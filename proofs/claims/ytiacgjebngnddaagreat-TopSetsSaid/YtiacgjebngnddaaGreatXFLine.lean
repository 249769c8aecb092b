/-
  The functions, each by its tree.
-/
import Derived.Test.YtiacgjebngnddaaGreatXAbC
import Derived.Test.YtiacgjebngnddaaGreatXFRatio
import Derived.Test.YtiacgjebngnddaaGreatXFacts
namespace Go.Proofs.YtiacgjebngnddaaGreat.Ab
open Go Go.RowKit
open Go.IntKind (i64 u64)
set_option maxRecDepth 100000
set_option linter.unusedVariables false
set_option linter.unusedSimpArgs false
noncomputable section
def zfx (a0:(List ByteArray)): Tr ((List ByteArray)) :=
 (.split (Sl.len (.strs a0)=0) (True)
  (.leaf [])
  (.guard ((Sl.len (.strs [])+Sl.len (.strs a0))*16≤140737488355328)
  (.leaf a0)))
def zbz (a0:(List ByteArray)):=(zfx a0).run
def zkl:SpecT:=zr 0 (Par.q zalj) 1 [] zfx default (LQ.k (LQ.c (.own 0)) (Par.q zalj)) 1 [.rows 9]
theorem zrf:zg Tryz.prog 137 (zkl).spec :=
 sK (A:=⟨[],[],[],[[0],[0,4],[2],[2]],[]⟩) zhN fM Tryz.func137 (c:=(fb Tryz.f137)) (by kernel_rfl) (Lc:=0) trivial _ _ 5 _ _ _ _ _ _ [.nilown 2 9 (.strs [])] (by rintro a0;kernel_rfl)
def zil (a0:(List Int)): Tr ((List Int)) :=
 (.split (Sl.len (.ints a0)=0) (True)
  (.leaf [])
  (.guard ((Sl.len (.ints [])+Sl.len (.ints a0))*8≤140737488355328)
  (.leaf a0)))
def z5 (a0:(List Int)):=(zil a0).run
def zim:SpecT:=zr 0 (Par.q zfw) 1 [] zil default (LQ.k (LQ.c (.own 0)) (Par.q zfw)) 1 [.rows 3]
theorem zmj:zg Tryz.prog 106 (zim).spec :=
 sK (A:=⟨[],[],[],[[0],[0,4],[2],[2]],[]⟩) zhN fM Tryz.func106 (c:=(fb Tryz.f106)) (by kernel_rfl) (Lc:=0) trivial _ _ 5 _ _ _ _ _ _ [.nilown 2 3 (.ints [])] (by rintro a0;kernel_rfl)
def zd8 (a0:(List Power)): Tr ((List Power)) :=
 (.split (Sl.len (.powers a0)=0) (True)
  (.leaf [])
  (.guard ((Sl.len (.powers [])+Sl.len (.powers a0))*16≤140737488355328)
  (.leaf a0)))
def zdw (a0:(List Power)):=(zd8 a0).run
def zib:SpecT:=zr 0 (Par.q zn) 1 [] zd8 default (LQ.k (LQ.c (.own 0)) (Par.q zn)) 1 [.rows 83]
theorem zom:zg Tryz.prog 73 (zib).spec :=
 sK (A:=⟨[],[],[],[[0],[0,4],[2],[2]],[]⟩) zhN fM Tryz.func73 (c:=(fb Tryz.f73)) (by kernel_rfl) (Lc:=0) trivial _ _ 5 _ _ _ _ _ _ [.nilown 2 83 (.powers [])] (by rintro a0;kernel_rfl)
def zdd (a0:(List Power)): Tr ((List Power)) :=
 (.split (Sl.len (.powers a0)=0) (True)
  (.leaf [])
  (.guard ((Sl.len (.powers [])+Sl.len (.powers a0))*16≤140737488355328)
  (.leaf a0)))
def zah (a0:(List Power)):=(zdd a0).run
def zde:SpecT:=zr 0 (Par.q zn) 1 [] zdd default (Par.q zn) 1 []
theorem zfy:zg Tryz.prog 73 (zde).spec :=
 sK (A:=⟨[],[],[],[[0],[0,4],[2],[2]],[]⟩) zhN fM Tryz.func73 (c:=(fb Tryz.f73)) (by kernel_rfl) (Lc:=0) trivial _ _ 5 _ _ _ _ _ _ [.pub 2] (by rintro a0;kernel_rfl)
def zez (a0:(List Wait)): Tr ((List Wait)) :=
 (.split (Sl.len (.waits a0)=0) (True)
  (.leaf [])
  (.guard ((Sl.len (.waits [])+Sl.len (.waits a0))*64≤140737488355328)
  (.leaf a0)))
def zq (a0:(List Wait)):=(zez a0).run
def zbi:SpecT:=zr 0 (Par.q zkg) 1 [] zez default (LQ.k (LQ.c (.own 0)) (Par.q zkg)) 1 [.rows 78]
theorem zci:zg Tryz.prog 64 (zbi).spec :=
 sK (A:=⟨[],[],[],[[0],[0,4],[2],[2]],[]⟩) zhN fM Tryz.func64 (c:=(fb Tryz.f64)) (by kernel_rfl) (Lc:=0) trivial _ _ 5 _ _ _ _ _ _ [.nilown 2 78 (.waits [])] (by rintro a0;kernel_rfl)
def zd9 (a0:(List Asked)): Tr ((List Asked)) :=
 (.split (Sl.len (.asked a0)=0) (True)
  (.leaf [])
  (.guard ((Sl.len (.asked [])+Sl.len (.asked a0))*88≤140737488355328)
  (.leaf a0)))
def zan (a0:(List Asked)):=(zd9 a0).run
def zea:SpecT:=zr 0 (Par.q zd7) 1 [] zd9 default (LQ.k (LQ.c (.own 0)) (Par.q zd7)) 1 [.rows 90]
theorem zg3:zg Tryz.prog 118 (zea).spec :=
 sK (A:=⟨[],[],[],[[0],[0,4],[2],[2]],[]⟩) zhN fM Tryz.func118 (c:=(fb Tryz.f118)) (by kernel_rfl) (Lc:=0) trivial _ _ 5 _ _ _ _ _ _ [.nilown 2 90 (.asked [])] (by rintro a0;kernel_rfl)
def zdx (a0:(List Packet)): Tr ((List Packet)) :=
 (.split (Sl.len (.packets a0)=0) (True)
  (.leaf [])
  (.guard ((Sl.len (.packets [])+Sl.len (.packets a0))*80≤140737488355328)
  (.leaf a0)))
def za1 (a0:(List Packet)):=(zdx a0).run
def zg4:SpecT:=zr 0 (Par.q zc7) 1 [] zdx default (LQ.k (LQ.c (.own 0)) (Par.q zc7)) 1 [.rows 73]
theorem znj:zg Tryz.prog 119 (zg4).spec :=
 sK (A:=⟨[],[],[],[[0],[0,4],[2],[2]],[]⟩) zhN fM Tryz.func119 (c:=(fb Tryz.f119)) (by kernel_rfl) (Lc:=0) trivial _ _ 5 _ _ _ _ _ _ [.nilown 2 73 (.packets [])] (by rintro a0;kernel_rfl)
def ze0 (a0:(List Ripe)): Tr ((List Ripe)) :=
 (.split (Sl.len (.ripes a0)=0) (True)
  (.leaf [])
  (.guard ((Sl.len (.ripes [])+Sl.len (.ripes a0))*16≤140737488355328)
  (.leaf a0)))
def zeb (a0:(List Ripe)):=(ze0 a0).run
def zin:SpecT:=zr 0 (Par.q ztt) 1 [] ze0 default (LQ.k (LQ.c (.own 0)) (Par.q ztt)) 1 [.rows 93]
theorem zpj:zg Tryz.prog 75 (zin).spec :=
 sK (A:=⟨[],[],[],[[0],[0,4],[2],[2]],[]⟩) zhN fM Tryz.func75 (c:=(fb Tryz.f75)) (by kernel_rfl) (Lc:=0) trivial _ _ 5 _ _ _ _ _ _ [.nilown 2 93 (.ripes [])] (by rintro a0;kernel_rfl)
def zqj (a0:Int): Tr (Bool) :=
 (.leaf (decide (a0 < 0)))
def zty (a0:Int):=(zqj a0).run
def zwf:SpecT:=zr 0 (Par.q intP) 1 [] zqj default (Par.q boolP) 1 []
theorem z18:zg Tryz.prog 91 (zwf).spec :=
 sK (A:=⟨[],[],[],[[0],[2]],[]⟩) zhN fM Tryz.func91 (c:=(fb Tryz.f91)) (by kernel_rfl) (Lc:=0) trivial _ _ 2 _ _ _ _ _ _ [] (by rintro a0;kernel_rfl)
def zv39:List (List Nat):=[[0,1],[0,1,7,8],[0,1,7,8,9],[0,1,5,7,8],[0,1,5,7,8,16],[4],[0,1,7,8],[4]]
noncomputable def zy39:EnvT:=⟨Tryz.prog,zac [(91,zwf)]⟩
theorem zh39:(zy39).Ok:=zf ⟨z18,trivial⟩
def zb6 (x0:(List Int)) (x1 x2:Int): Tr (((List Int)×Int×Int)⊕((Int)⊕(Unit))) :=
 (.ite (decide (x2 < x1))
  (.guard ((0:Int)≤x2∧x2 < ((Sl.len (.ints x0):Nat):Int))
  (.bind (zty (x0.getD x2.toNat 0)) fun v1 =>
  (.ite (v1)
   (.leaf (.inr (.inl x2)))
   (.leaf (.inl (x0,x1,i64.wrap (x2+1)))))))
  (.leaf (.inr (.inr ()))))
def zgm (x0:(List Int)) (x1 x2:Int):=zd3 (fun s:(List Int)×Int×Int=>(zb6 s.1 s.2.1 s.2.2).run) (x0,x1,x2)
def zatm:Ann:=⟨[],[],[],zv39,[]⟩
def zatn:=EndD.mk (LQ.v zfw (LQ.k (LQ.c (.fn 91 [])) (LQ.v intP (Par.q intP)))) ⟨[0,1,7,8],[.pub 0,.nilsl 0 (.ints [])]⟩ []
def zalu:=EndD.mk (Par.q intP) ⟨[4],[]⟩ []
def zalv:EndD (Unit):=⟨LQ.nil,⟨[],[]⟩,[]⟩
def zapq:St→Option LR:=L2 19 2 0 zatn .ret zalu (.exit 0) zalv (u3 zb6)
def zs39a:=sub (fb Tryz.f123) [0,1,0,1]
theorem zato:zt (zy39).env 0 zs39a zapq :=
 zoc (A:=zatm) zh39 fM trivial (k:=zch zs39a) (by kernel_rfl) rfl rfl (by rintro ⟨x0,x1,x2⟩;kernel_rfl)
def zc8 (a0:(List Int)): Tr (Int) :=
 (.two (zgm a0 ((a0.length:Nat):Int) 0) (fun v2 =>
  (.leaf v2)) (fun v3 =>
  (.leaf (-1))))
def ze1 (a0:(List Int)):=(zc8 a0).run
def zjb:SpecT:=zr 0 (LQ.skipR (Par.q zfw) (LQ.c (.fn 91 []))) 2 [] zc8 default (Par.q intP) 1 []
theorem zqk:zg Tryz.prog 123 (zjb).spec :=
 sK (A:=⟨[([0,1,0,1],zapq)],[],[],zv39,[]⟩) zh39 fM Tryz.func123 (c:=(fb Tryz.f123)) (by kernel_rfl) (Lc:=0) ⟨zato,trivial⟩ _ _ 2 _ _ _ _ _ _ [] (by rintro a0;kernel_rfl)
noncomputable def zy40:EnvT:=⟨Tryz.prog,zac [(123,zjb)]⟩
theorem zh40:(zy40).Ok:=zf ⟨zqk,trivial⟩
def zdy (a0:(List Int)): Tr (Bool) :=
 (.bind (ze1 a0) fun v1 =>
 (.leaf (decide (v1≥0))))
def zdf (a0:(List Int)):=(zdy a0).run
def zg5:SpecT:=zr 0 (LQ.skipR (Par.q zfw) (LQ.c (.fn 91 []))) 2 [] zdy default (Par.q boolP) 1 []
theorem znk:zg Tryz.prog 90 (zg5).spec :=
 sK (A:=⟨[],[],[],[[0,1],[4]],[]⟩) zh40 fM Tryz.func90 (c:=(fb Tryz.f90)) (by kernel_rfl) (Lc:=0) trivial _ _ 2 _ _ _ _ _ _ [] (by rintro a0;kernel_rfl)
noncomputable def zy41:EnvT:=⟨Tryz.prog,zac [(90,zg5)]⟩
theorem zh41:(zy41).Ok:=zf ⟨znk,trivial⟩
def zuy (a0:zid): Tr (Bool) :=
 (.ite ((((((a0.Said.length:Nat):Int) != ((a0.Due.length:Nat):Int))||(decide (((a0.Said.length:Nat):Int) > 400)))||(decide (a0.Got < 0)))||(decide (a0.Got > ((a0.Said.length:Nat):Int))))
  (.leaf false)
  (.bind (zdf a0.Due) fun v1 =>
  (.leaf (!v1))))
def zdn (a0:zid):=(zuy a0).run
def zjm:SpecT:=zr 0 (Par.q (Par.ofLP lineL)) 1 [] zuy default (Par.q boolP) 1 []
theorem zkm:zg Tryz.prog 58 (zjm).spec :=
 sK (A:=⟨[],[],[],[[1],[1,28],[2],[2]],[]⟩) zh41 fM Tryz.func58 (c:=(fb Tryz.f58)) (by kernel_rfl) (Lc:=0) trivial _ _ 3 _ _ _ _ _ _ [] (by rintro a0;kernel_rfl)
noncomputable def zy42:EnvT:=⟨Tryz.prog,zac [(58,zjm),(137,zkl),(106,zim)]⟩
theorem zh42:(zy42).Ok:=zf ⟨zkm,zrf,zmj,trivial⟩
def zxd (a0:zid) (a1:ByteArray) (a2:Int): Tr (zid×Int) :=
 (.bind (zdn a0) fun v1 =>
 (.ite ((!v1)||(decide (a2 < 0)))
  (.leaf (a0,2))
  (.ite (a0.Closed)
   (.leaf (a0,11))
   (.ite (decide (((a0.Said.length:Nat):Int)≥400))
    (.leaf (a0,6))
    (.guard ((zbz a0.Said).isSome=true)
    (.guard ((Sl.len (.strs ((zbz a0.Said).getD default))+Sl.len (.strs [a1]))*16≤140737488355328)
    (.guard ((z5 a0.Due).isSome=true)
    (.guard ((Sl.len (.ints ((z5 a0.Due).getD default))+Sl.len (.ints [a2]))*8≤140737488355328)
    (.leaf ({ a0 with Said:=((zbz a0.Said).getD default)++[a1],Due:=((z5 a0.Due).getD default)++[a2] },0))))))))))
def zql (a0:zid) (a1:ByteArray) (a2:Int):=(zxd a0 a1 a2).run
def zxe:SpecT:=zr 0 (LQ.v (Par.ofLP lineL) (LQ.v strP (Par.q intP))) 3 [] (u3 zxd) default (LQ.v (Par.ofLP lineL) (Par.q intP)) 2 []
theorem zz8:zg Tryz.prog 114 (zxe).spec :=
 sK (A:=⟨[],[],[],[[1,2,3,6],[1,2,3,6,8],[6,7],[1,2,3,6,17],[6,7],[1,2,3,6,21],[6,7],[3,6],[6,7]],[]⟩) zh42 fM Tryz.func114 (c:=(fb Tryz.f114)) (by kernel_rfl) (Lc:=0) trivial _ _ 10 _ _ _ _ _ _ [.pubB 6] (by rintro ⟨a0,a1,a2⟩;kernel_rfl)
noncomputable def zy43:EnvT:=⟨Tryz.prog,zac [(58,zjm)]⟩
theorem zh43:(zy43).Ok:=zf ⟨zkm,trivial⟩
def zon (a0:zid) (a1:Int) (a2:ByteArray) (a3 a4:Int): Tr (zid×Int) :=
 (.bind (zdn a0) fun v1 =>
 (.ite (!v1)
  (.leaf (a0,2))
  (.ite (a0.Closed)
   (.leaf (a0,11))
   (.ite (a1 != (i64.wrap (a0.Got+1)))
    (.leaf (a0,10))
    (.guard ((((decide (a1 > a3))||(decide (a1 > ((a0.Said.length:Nat):Int))))=false→((0:Int)≤(i64.wrap (a1 - 1))∧(i64.wrap (a1 - 1)) < ((Sl.len (.strs a0.Said):Nat):Int))∧True))
    (.ite (((decide (a1 > a3))||(decide (a1 > ((a0.Said.length:Nat):Int))))||(!((a0.Said.getD ((i64.wrap (a1 - 1)).toNat) .empty).toList==a2.toList)))
     (.leaf (a0,9))
     (.guard ((0:Int)≤(i64.wrap (a1 - 1))∧(i64.wrap (a1 - 1)) < ((Sl.len (.ints a0.Due):Nat):Int))
     (.ite (decide (a4≥(a0.Due.getD ((i64.wrap (a1 - 1)).toNat) 0)))
      (.leaf (a0,12))
      (.leaf ({ a0 with Got:=a1 },0))))))))))
def zh (a0:zid) (a1:Int) (a2:ByteArray) (a3 a4:Int):=(zon a0 a1 a2 a3 a4).run
def ztz:SpecT:=zr 0 (LQ.v (Par.ofLP lineL) (LQ.v intP (LQ.v strP (LQ.v intP (Par.q intP))))) 5 [] (u5 zon) default (LQ.v (Par.ofLP lineL) (Par.q intP)) 2 []
theorem zz9:zg Tryz.prog 79 (ztz).spec :=
 sK (A:=⟨[],[],[],[[1,2,3,4,5,10],[1,2,3,4,5,10,12],[10,11],[1,2,3,4,5,10,17],[10,11],[1,2,3,4,5,10,21],[10,11],[1,4,5,10,28],[10,11],[1,5,10,50],[10,11],[5,10],[10,11]],[]⟩) zh43 fM Tryz.func79 (c:=(fb Tryz.f79)) (by kernel_rfl) (Lc:=0) trivial _ _ 4 _ _ _ _ _ _ [.pubB 10] (by rintro ⟨a0,a1,a2,a3,a4⟩;kernel_rfl)
noncomputable def zy44:EnvT:=⟨Tryz.prog,zac [(58,zjm)]⟩
theorem zh44:(zy44).Ok:=zf ⟨zkm,trivial⟩
def zqm (a0:zid) (a1 a2 a3:Int): Tr (zid×Int) :=
 (.bind (zdn a0) fun v1 =>
 (.ite (!v1)
  (.leaf (a0,2))
  (.ite (a0.Closed)
   (.leaf (a0,11))
   (.ite ((decide (a1 < 1))||(decide (a1 > ((a0.Said.length:Nat):Int))))
    (.leaf (a0,4))
    (.ite (decide (a1≤a3))
     (.leaf (a0,5))
     (.guard ((0:Int)≤(i64.wrap (a1 - 1))∧(i64.wrap (a1 - 1)) < ((Sl.len (.ints a0.Due):Nat):Int))
     (.ite (decide (a2 < (a0.Due.getD ((i64.wrap (a1 - 1)).toNat) 0)))
      (.leaf (a0,13))
      (.leaf ({ a0 with Closed:=true },0)))))))))
def zj7 (a0:zid) (a1 a2 a3:Int):=(zqm a0 a1 a2 a3).run
def zwg:SpecT:=zr 0 (LQ.v (Par.ofLP lineL) (LQ.v intP (LQ.v intP (Par.q intP)))) 4 [] (u4 zqm) default (LQ.v (Par.ofLP lineL) (Par.q intP)) 2 []
theorem z19:zg Tryz.prog 82 (zwg).spec :=
 sK (A:=⟨[],[],[],[[1,2,3,4,8],[1,2,3,4,8,10],[8,9],[1,2,3,4,8,15],[8,9],[1,2,3,4,8,19],[8,9],[1,2,4,8,30],[8,9],[4,8,35],[8,9],[4,8],[8,9]],[]⟩) zh44 fM Tryz.func82 (c:=(fb Tryz.f82)) (by kernel_rfl) (Lc:=0) trivial _ _ 4 _ _ _ _ _ _ [.pubB 8] (by rintro ⟨a0,a1,a2,a3⟩;kernel_rfl)
end
