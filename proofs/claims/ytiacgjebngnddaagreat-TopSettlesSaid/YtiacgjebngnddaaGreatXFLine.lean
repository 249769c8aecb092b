/-
  The functions, each by its tree.
-/
import Derived.Test.YtiacgjebngnddaaGreatXAbC
import Derived.Test.YtiacgjebngnddaaGreatXFRatio
import Derived.Test.YtiacgjebngnddaaGreatXFacts
namespace Go.Proofs.YtiacgjebngnddaaGreat.Ab
open Go Go.RowKit
open Go.IntKind (i64 u64)
set_option maxRecDepth 100000
set_option linter.unusedVariables false
set_option linter.unusedSimpArgs false
noncomputable section
def zgi (a0:(List ByteArray)): Tr ((List ByteArray)) :=
 (.split (Sl.len (.strs a0)=0) (True)
  (.leaf [])
  (.guard ((Sl.len (.strs [])+Sl.len (.strs a0))*16≤140737488355328)
  (.leaf a0)))
def zb9 (a0:(List ByteArray)):=(zgi a0).run
def zln:SpecT:=zw 0 (Par.q zapu) 1 [] zgi default (LQ.k (LQ.c (.own 0)) (Par.q zapu)) 1 [.rows 9]
theorem zsr:zg Tryz.prog 137 (zln).spec :=
 sK (A:=⟨[],[],[],[[0],[0,4],[2],[2]],[]⟩) zhN fM Tryz.func137 (c:=(fb Tryz.f137)) (by kernel_rfl) (Lc:=0) trivial _ _ 5 _ _ _ _ _ _ [.nilown 2 9 (.strs [])] (by rintro a0;kernel_rfl)
def zjn (a0:(List Int)): Tr ((List Int)) :=
 (.split (Sl.len (.ints a0)=0) (True)
  (.leaf [])
  (.guard ((Sl.len (.ints [])+Sl.len (.ints a0))*8≤140737488355328)
  (.leaf a0)))
def z9 (a0:(List Int)):=(zjn a0).run
def zjo:SpecT:=zw 0 (Par.q zgh) 1 [] zjn default (LQ.k (LQ.c (.own 0)) (Par.q zgh)) 1 [.rows 3]
theorem zns:zg Tryz.prog 106 (zjo).spec :=
 sK (A:=⟨[],[],[],[[0],[0,4],[2],[2]],[]⟩) zhN fM Tryz.func106 (c:=(fb Tryz.f106)) (by kernel_rfl) (Lc:=0) trivial _ _ 5 _ _ _ _ _ _ [.nilown 2 3 (.ints [])] (by rintro a0;kernel_rfl)
def zem (a0:(List Power)): Tr ((List Power)) :=
 (.split (Sl.len (.powers a0)=0) (True)
  (.leaf [])
  (.guard ((Sl.len (.powers [])+Sl.len (.powers a0))*16≤140737488355328)
  (.leaf a0)))
def zd6 (a0:(List Power)):=(zem a0).run
def zjb:SpecT:=zw 0 (Par.q zp) 1 [] zem default (LQ.k (LQ.c (.own 0)) (Par.q zp)) 1 [.rows 83]
theorem zpr:zg Tryz.prog 73 (zjb).spec :=
 sK (A:=⟨[],[],[],[[0],[0,4],[2],[2]],[]⟩) zhN fM Tryz.func73 (c:=(fb Tryz.f73)) (by kernel_rfl) (Lc:=0) trivial _ _ 5 _ _ _ _ _ _ [.nilown 2 83 (.powers [])] (by rintro a0;kernel_rfl)
def zdq (a0:(List Power)): Tr ((List Power)) :=
 (.split (Sl.len (.powers a0)=0) (True)
  (.leaf [])
  (.guard ((Sl.len (.powers [])+Sl.len (.powers a0))*16≤140737488355328)
  (.leaf a0)))
def zam (a0:(List Power)):=(zdq a0).run
def zdr:SpecT:=zw 0 (Par.q zp) 1 [] zdq default (Par.q zp) 1 []
theorem zgj:zg Tryz.prog 73 (zdr).spec :=
 sK (A:=⟨[],[],[],[[0],[0,4],[2],[2]],[]⟩) zhN fM Tryz.func73 (c:=(fb Tryz.f73)) (by kernel_rfl) (Lc:=0) trivial _ _ 5 _ _ _ _ _ _ [.pub 2] (by rintro a0;kernel_rfl)
def zff (a0:(List Wait)): Tr ((List Wait)) :=
 (.split (Sl.len (.waits a0)=0) (True)
  (.leaf [])
  (.guard ((Sl.len (.waits [])+Sl.len (.waits a0))*64≤140737488355328)
  (.leaf a0)))
def zv (a0:(List Wait)):=(zff a0).run
def zbt:SpecT:=zw 0 (Par.q zli) 1 [] zff default (LQ.k (LQ.c (.own 0)) (Par.q zli)) 1 [.rows 78]
theorem zct:zg Tryz.prog 64 (zbt).spec :=
 sK (A:=⟨[],[],[],[[0],[0,4],[2],[2]],[]⟩) zhN fM Tryz.func64 (c:=(fb Tryz.f64)) (by kernel_rfl) (Lc:=0) trivial _ _ 5 _ _ _ _ _ _ [.nilown 2 78 (.waits [])] (by rintro a0;kernel_rfl)
def zen (a0:(List Asked)): Tr ((List Asked)) :=
 (.split (Sl.len (.asked a0)=0) (True)
  (.leaf [])
  (.guard ((Sl.len (.asked [])+Sl.len (.asked a0))*88≤140737488355328)
  (.leaf a0)))
def zaw (a0:(List Asked)):=(zen a0).run
def zeo:SpecT:=zw 0 (Par.q zel) 1 [] zen default (LQ.k (LQ.c (.own 0)) (Par.q zel)) 1 [.rows 90]
theorem zhz:zg Tryz.prog 118 (zeo).spec :=
 sK (A:=⟨[],[],[],[[0],[0,4],[2],[2]],[]⟩) zhN fM Tryz.func118 (c:=(fb Tryz.f118)) (by kernel_rfl) (Lc:=0) trivial _ _ 5 _ _ _ _ _ _ [.nilown 2 90 (.asked [])] (by rintro a0;kernel_rfl)
def zd7 (a0:(List Packet)): Tr ((List Packet)) :=
 (.split (Sl.len (.packets a0)=0) (True)
  (.leaf [])
  (.guard ((Sl.len (.packets [])+Sl.len (.packets a0))*80≤140737488355328)
  (.leaf a0)))
def zbb (a0:(List Packet)):=(zd7 a0).run
def zh0:SpecT:=zw 0 (Par.q zdj) 1 [] zd7 default (LQ.k (LQ.c (.own 0)) (Par.q zdj)) 1 [.rows 73]
theorem zou:zg Tryz.prog 119 (zh0).spec :=
 sK (A:=⟨[],[],[],[[0],[0,4],[2],[2]],[]⟩) zhN fM Tryz.func119 (c:=(fb Tryz.f119)) (by kernel_rfl) (Lc:=0) trivial _ _ 5 _ _ _ _ _ _ [.nilown 2 73 (.packets [])] (by rintro a0;kernel_rfl)
def zfg (a0:(List Ripe)): Tr ((List Ripe)) :=
 (.split (Sl.len (.ripes a0)=0) (True)
  (.leaf [])
  (.guard ((Sl.len (.ripes [])+Sl.len (.ripes a0))*16≤140737488355328)
  (.leaf a0)))
def zep (a0:(List Ripe)):=(zfg a0).run
def zjp:SpecT:=zw 0 (Par.q zu6) 1 [] zfg default (LQ.k (LQ.c (.own 0)) (Par.q zu6)) 1 [.rows 93]
theorem zqo:zg Tryz.prog 75 (zjp).spec :=
 sK (A:=⟨[],[],[],[[0],[0,4],[2],[2]],[]⟩) zhN fM Tryz.func75 (c:=(fb Tryz.f75)) (by kernel_rfl) (Lc:=0) trivial _ _ 5 _ _ _ _ _ _ [.nilown 2 93 (.ripes [])] (by rintro a0;kernel_rfl)
def zrr (a0:Int): Tr (Bool) :=
 (.leaf (decide (a0 < 0)))
def zvb (a0:Int):=(zrr a0).run
def zxv:SpecT:=zw 0 (Par.q intP) 1 [] zrr default (Par.q boolP) 1 []
theorem z35:zg Tryz.prog 91 (zxv).spec :=
 sK (A:=⟨[],[],[],[[0],[2]],[]⟩) zhN fM Tryz.func91 (c:=(fb Tryz.f91)) (by kernel_rfl) (Lc:=0) trivial _ _ 2 _ _ _ _ _ _ [] (by rintro a0;kernel_rfl)
def zv39:List (List Nat):=[[0,1],[0,1,7,8],[0,1,7,8,9],[0,1,5,7,8],[0,1,5,7,8,16],[4],[0,1,7,8],[4]]
noncomputable def zy39:EnvT:=⟨Tryz.prog,zah [(91,zxv)]⟩
theorem zh39:(zy39).Ok:=zf ⟨z35,trivial⟩
def zch (x0:(List Int)) (x1 x2:Int): Tr (((List Int)×Int×Int)⊕((Int)⊕(Unit))) :=
 (.ite (decide (x2 < x1))
  (.guard ((0:Int)≤x2∧x2 < ((Sl.len (.ints x0):Nat):Int))
  (.bind (zvb (x0.getD x2.toNat 0)) fun v1 =>
  (.ite (v1)
   (.leaf (.inr (.inl x2)))
   (.leaf (.inl (x0,x1,i64.wrap (x2+1)))))))
  (.leaf (.inr (.inr ()))))
def zhf (x0:(List Int)) (x1 x2:Int):=zdm (fun s:(List Int)×Int×Int=>(zch s.1 s.2.1 s.2.2).run) (x0,x1,x2)
def zax2:Ann:=⟨[],[],[],zv39,[]⟩
def zax3:=EndD.mk (LQ.v zgh (LQ.k (LQ.c (.fn 91 [])) (LQ.v intP (Par.q intP)))) ⟨[0,1,7,8],[.pub 0,.nilsl 0 (.ints [])]⟩ []
def zap4:=EndD.mk (Par.q intP) ⟨[4],[]⟩ []
def zap5:EndD (Unit):=⟨LQ.nil,⟨[],[]⟩,[]⟩
def zat3:St→Option LR:=L2 19 2 0 zax3 .ret zap4 (.exit 0) zap5 (u3 zch)
def zs39a:=sub (fb Tryz.f123) [0,1,0,1]
theorem zax4:zt (zy39).env 0 zs39a zat3 :=
 znl (A:=zax2) zh39 fM trivial (k:=zcd zs39a) (by kernel_rfl) rfl rfl (by rintro ⟨x0,x1,x2⟩;kernel_rfl)
def zdk (a0:(List Int)): Tr (Int) :=
 (.two (zhf a0 ((a0.length:Nat):Int) 0) (fun v2 =>
  (.leaf v2)) (fun v3 =>
  (.leaf (-1))))
def zfh (a0:(List Int)):=(zdk a0).run
def zkd:SpecT:=zw 0 (LQ.skipR (Par.q zgh) (LQ.c (.fn 91 []))) 2 [] zdk default (Par.q intP) 1 []
theorem zrs:zg Tryz.prog 123 (zkd).spec :=
 sK (A:=⟨[([0,1,0,1],zat3)],[],[],zv39,[]⟩) zh39 fM Tryz.func123 (c:=(fb Tryz.f123)) (by kernel_rfl) (Lc:=0) ⟨zax4,trivial⟩ _ _ 2 _ _ _ _ _ _ [] (by rintro a0;kernel_rfl)
noncomputable def zy40:EnvT:=⟨Tryz.prog,zah [(123,zkd)]⟩
theorem zh40:(zy40).Ok:=zf ⟨zrs,trivial⟩
def zd8 (a0:(List Int)): Tr (Bool) :=
 (.bind (zfh a0) fun v1 =>
 (.leaf (decide (v1≥0))))
def zds (a0:(List Int)):=(zd8 a0).run
def zh1:SpecT:=zw 0 (LQ.skipR (Par.q zgh) (LQ.c (.fn 91 []))) 2 [] zd8 default (Par.q boolP) 1 []
theorem zov:zg Tryz.prog 90 (zh1).spec :=
 sK (A:=⟨[],[],[],[[0,1],[4]],[]⟩) zh40 fM Tryz.func90 (c:=(fb Tryz.f90)) (by kernel_rfl) (Lc:=0) trivial _ _ 2 _ _ _ _ _ _ [] (by rintro a0;kernel_rfl)
noncomputable def zy41:EnvT:=⟨Tryz.prog,zah [(90,zh1)]⟩
theorem zh41:(zy41).Ok:=zf ⟨zov,trivial⟩
def zwf (a0:zi6): Tr (Bool) :=
 (.ite ((((((a0.Said.length:Nat):Int) != ((a0.Due.length:Nat):Int))||(decide (((a0.Said.length:Nat):Int) > 400)))||(decide (a0.Got < 0)))||(decide (a0.Got > ((a0.Said.length:Nat):Int))))
  (.leaf false)
  (.bind (zds a0.Due) fun v1 =>
  (.leaf (!v1))))
def zdz (a0:zi6):=(zwf a0).run
def zko:SpecT:=zw 0 (Par.q (Par.ofLP lineL)) 1 [] zwf default (Par.q boolP) 1 []
theorem zlo:zg Tryz.prog 58 (zko).spec :=
 sK (A:=⟨[],[],[],[[1],[1,28],[2],[2]],[]⟩) zh41 fM Tryz.func58 (c:=(fb Tryz.f58)) (by kernel_rfl) (Lc:=0) trivial _ _ 3 _ _ _ _ _ _ [] (by rintro a0;kernel_rfl)
noncomputable def zy42:EnvT:=⟨Tryz.prog,zah [(58,zko),(137,zln),(106,zjo)]⟩
theorem zh42:(zy42).Ok:=zf ⟨zlo,zsr,zns,trivial⟩
def zyx (a0:zi6) (a1:ByteArray) (a2:Int): Tr (zi6×Int) :=
 (.bind (zdz a0) fun v1 =>
 (.ite ((!v1)||(decide (a2 < 0)))
  (.leaf (a0,2))
  (.ite (a0.Closed)
   (.leaf (a0,11))
   (.ite (decide (((a0.Said.length:Nat):Int)≥400))
    (.leaf (a0,6))
    (.guard ((zb9 a0.Said).isSome=true)
    (.guard ((Sl.len (.strs ((zb9 a0.Said).getD default))+Sl.len (.strs [a1]))*16≤140737488355328)
    (.guard ((z9 a0.Due).isSome=true)
    (.guard ((Sl.len (.ints ((z9 a0.Due).getD default))+Sl.len (.ints [a2]))*8≤140737488355328)
    (.leaf ({ a0 with Said:=((zb9 a0.Said).getD default)++[a1],Due:=((z9 a0.Due).getD default)++[a2] },0))))))))))
def zrt (a0:zi6) (a1:ByteArray) (a2:Int):=(zyx a0 a1 a2).run
def zyy:SpecT:=zw 0 (LQ.v (Par.ofLP lineL) (LQ.v strP (Par.q intP))) 3 [] (u3 zyx) default (LQ.v (Par.ofLP lineL) (Par.q intP)) 2 []
theorem z1y:zg Tryz.prog 114 (zyy).spec :=
 sK (A:=⟨[],[],[],[[1,2,3,6],[1,2,3,6,8],[6,7],[1,2,3,6,17],[6,7],[1,2,3,6,21],[6,7],[3,6],[6,7]],[]⟩) zh42 fM Tryz.func114 (c:=(fb Tryz.f114)) (by kernel_rfl) (Lc:=0) trivial _ _ 10 _ _ _ _ _ _ [.pubB 6] (by rintro ⟨a0,a1,a2⟩;kernel_rfl)
noncomputable def zy43:EnvT:=⟨Tryz.prog,zah [(58,zko)]⟩
theorem zh43:(zy43).Ok:=zf ⟨zlo,trivial⟩
def zps (a0:zi6) (a1:Int) (a2:ByteArray) (a3 a4:Int): Tr (zi6×Int) :=
 (.bind (zdz a0) fun v1 =>
 (.ite (!v1)
  (.leaf (a0,2))
  (.ite (a0.Closed)
   (.leaf (a0,11))
   (.ite (a1 != (i64.wrap (a0.Got+1)))
    (.leaf (a0,10))
    (.guard ((((decide (a1 > a3))||(decide (a1 > ((a0.Said.length:Nat):Int))))=false→((0:Int)≤(i64.wrap (a1 - 1))∧(i64.wrap (a1 - 1)) < ((Sl.len (.strs a0.Said):Nat):Int))∧True))
    (.ite (((decide (a1 > a3))||(decide (a1 > ((a0.Said.length:Nat):Int))))||(!((a0.Said.getD ((i64.wrap (a1 - 1)).toNat) .empty).toList==a2.toList)))
     (.leaf (a0,9))
     (.guard ((0:Int)≤(i64.wrap (a1 - 1))∧(i64.wrap (a1 - 1)) < ((Sl.len (.ints a0.Due):Nat):Int))
     (.ite (decide (a4≥(a0.Due.getD ((i64.wrap (a1 - 1)).toNat) 0)))
      (.leaf (a0,12))
      (.leaf ({ a0 with Got:=a1 },0))))))))))
def zh (a0:zi6) (a1:Int) (a2:ByteArray) (a3 a4:Int):=(zps a0 a1 a2 a3 a4).run
def zvc:SpecT:=zw 0 (LQ.v (Par.ofLP lineL) (LQ.v intP (LQ.v strP (LQ.v intP (Par.q intP))))) 5 [] (u5 zps) default (LQ.v (Par.ofLP lineL) (Par.q intP)) 2 []
theorem z1z:zg Tryz.prog 79 (zvc).spec :=
 sK (A:=⟨[],[],[],[[1,2,3,4,5,10],[1,2,3,4,5,10,12],[10,11],[1,2,3,4,5,10,17],[10,11],[1,2,3,4,5,10,21],[10,11],[1,4,5,10,28],[10,11],[1,5,10,50],[10,11],[5,10],[10,11]],[]⟩) zh43 fM Tryz.func79 (c:=(fb Tryz.f79)) (by kernel_rfl) (Lc:=0) trivial _ _ 4 _ _ _ _ _ _ [.pubB 10] (by rintro ⟨a0,a1,a2,a3,a4⟩;kernel_rfl)
noncomputable def zy44:EnvT:=⟨Tryz.prog,zah [(58,zko)]⟩
theorem zh44:(zy44).Ok:=zf ⟨zlo,trivial⟩
def zru (a0:zi6) (a1 a2 a3:Int): Tr (zi6×Int) :=
 (.bind (zdz a0) fun v1 =>
 (.ite (!v1)
  (.leaf (a0,2))
  (.ite (a0.Closed)
   (.leaf (a0,11))
   (.ite ((decide (a1 < 1))||(decide (a1 > ((a0.Said.length:Nat):Int))))
    (.leaf (a0,4))
    (.ite (decide (a1≤a3))
     (.leaf (a0,5))
     (.guard ((0:Int)≤(i64.wrap (a1 - 1))∧(i64.wrap (a1 - 1)) < ((Sl.len (.ints a0.Due):Nat):Int))
     (.ite (decide (a2 < (a0.Due.getD ((i64.wrap (a1 - 1)).toNat) 0)))
      (.leaf (a0,13))
      (.leaf ({ a0 with Closed:=true },0)))))))))
def zlb (a0:zi6) (a1 a2 a3:Int):=(zru a0 a1 a2 a3).run
def zxw:SpecT:=zw 0 (LQ.v (Par.ofLP lineL) (LQ.v intP (LQ.v intP (Par.q intP)))) 4 [] (u4 zru) default (LQ.v (Par.ofLP lineL) (Par.q intP)) 2 []
theorem z36:zg Tryz.prog 82 (zxw).spec :=
 sK (A:=⟨[],[],[],[[1,2,3,4,8],[1,2,3,4,8,10],[8,9],[1,2,3,4,8,15],[8,9],[1,2,3,4,8,19],[8,9],[1,2,4,8,30],[8,9],[4,8,35],[8,9],[4,8],[8,9]],[]⟩) zh44 fM Tryz.func82 (c:=(fb Tryz.f82)) (by kernel_rfl) (Lc:=0) trivial _ _ 4 _ _ _ _ _ _ [.pubB 8] (by rintro ⟨a0,a1,a2,a3⟩;kernel_rfl)
end
