/-
  The functions, each by its tree.
-/
import Derived.Test.YtobfadhgiaphnaaGreatXAbFun
import Derived.Test.YtobfadhgiaphnaaGreatXAbStructs
import Derived.Test.YtobfadhgiaphnaaGreatXFRatio
import Derived.Test.YtobfadhgiaphnaaGreatXFacts
namespace Go.Proofs.YtobfadhgiaphnaaGreat.Ab
open Go Go.RowKit
set_option maxRecDepth 100000
set_option linter.unusedVariables false
set_option linter.unusedSimpArgs false
noncomputable section
def zi5 (a0:(List ByteArray)): Tr ((List ByteArray)) :=
 (.split (Sl.len (.strs a0)=0) (True)
  (.leaf [])
  (.guard ((Sl.len (.strs [])+Sl.len (.strs a0))*16≤140737488355328)
  (.leaf a0)))
def zda (a0:(List ByteArray)):=(zi5 a0).run
def zpm:SpecT:=zm 0 (Par.q z6x) 1 [] zi5 default (LQ.k (LQ.c (.own 0)) (Par.q z6x)) 1 [.rows 9]
theorem zyz:ze Tryz.prog 199 (zpm).spec :=
 sK (A:=⟨[],[],[],[[0],[0,4],[2],[2]],[]⟩) zhN fM Tryz.func199 (c:=(fb Tryz.f199)) (by kernel_rfl) (Lc:=0) trivial _ _ 5 _ _ _ _ _ _ [.nilown 2 9 (.strs [])] (by rintro a0;kernel_rfl)
def zmt (a0:(List Int)): Tr ((List Int)) :=
 (.split (Sl.len (.ints a0)=0) (True)
  (.leaf [])
  (.guard ((Sl.len (.ints [])+Sl.len (.ints a0))*8≤140737488355328)
  (.leaf a0)))
def zaf (a0:(List Int)):=(zmt a0).run
def zmu:SpecT:=zm 0 (Par.q zbc) 1 [] zmt default (LQ.k (LQ.c (.own 0)) (Par.q zbc)) 1 [.rows 3]
theorem zsj:ze Tryz.prog 166 (zmu).spec :=
 sK (A:=⟨[],[],[],[[0],[0,4],[2],[2]],[]⟩) zhN fM Tryz.func166 (c:=(fb Tryz.f166)) (by kernel_rfl) (Lc:=0) trivial _ _ 5 _ _ _ _ _ _ [.nilown 2 3 (.ints [])] (by rintro a0;kernel_rfl)
def zf5 (a0:(List Power)): Tr ((List Power)) :=
 (.split (Sl.len (.powers a0)=0) (True)
  (.leaf [])
  (.guard ((Sl.len (.powers [])+Sl.len (.powers a0))*16≤140737488355328)
  (.leaf a0)))
def zfs (a0:(List Power)):=(zf5 a0).run
def zmb:SpecT:=zm 0 (Par.q zg) 1 [] zf5 default (LQ.k (LQ.c (.own 0)) (Par.q zg)) 1 [.rows 154]
theorem zu6:ze Tryz.prog 127 (zmb).spec :=
 sK (A:=⟨[],[],[],[[0],[0,4],[2],[2]],[]⟩) zhN fM Tryz.func127 (c:=(fb Tryz.f127)) (by kernel_rfl) (Lc:=0) trivial _ _ 5 _ _ _ _ _ _ [.nilown 2 154 (.powers [])] (by rintro a0;kernel_rfl)
def ze4 (a0:(List Power)): Tr ((List Power)) :=
 (.split (Sl.len (.powers a0)=0) (True)
  (.leaf [])
  (.guard ((Sl.len (.powers [])+Sl.len (.powers a0))*16≤140737488355328)
  (.leaf a0)))
def zav (a0:(List Power)):=(ze4 a0).run
def ze5:SpecT:=zm 0 (Par.q zg) 1 [] ze4 default (Par.q zg) 1 []
theorem zi6:ze Tryz.prog 127 (ze5).spec :=
 sK (A:=⟨[],[],[],[[0],[0,4],[2],[2]],[]⟩) zhN fM Tryz.func127 (c:=(fb Tryz.f127)) (by kernel_rfl) (Lc:=0) trivial _ _ 5 _ _ _ _ _ _ [.pub 2] (by rintro a0;kernel_rfl)
def zg2 (a0:(List Wait)): Tr ((List Wait)) :=
 (.split (Sl.len (.waits a0)=0) (True)
  (.leaf [])
  (.guard ((Sl.len (.waits [])+Sl.len (.waits a0))*64≤140737488355328)
  (.leaf a0)))
def zy (a0:(List Wait)):=(zg2 a0).run
def zcm:SpecT:=zm 0 (Par.q zca) 1 [] zg2 default (LQ.k (LQ.c (.own 0)) (Par.q zca)) 1 [.rows 127]
theorem zdw:ze Tryz.prog 118 (zcm).spec :=
 sK (A:=⟨[],[],[],[[0],[0,4],[2],[2]],[]⟩) zhN fM Tryz.func118 (c:=(fb Tryz.f118)) (by kernel_rfl) (Lc:=0) trivial _ _ 5 _ _ _ _ _ _ [.nilown 2 127 (.waits [])] (by rintro a0;kernel_rfl)
def zf6 (a0:(List Asked)): Tr ((List Asked)) :=
 (.split (Sl.len (.asked a0)=0) (True)
  (.leaf [])
  (.guard ((Sl.len (.asked [])+Sl.len (.asked a0))*88≤140737488355328)
  (.leaf a0)))
def za5 (a0:(List Asked)):=(zf6 a0).run
def zf7:SpecT:=zm 0 (Par.q zal) 1 [] zf6 default (LQ.k (LQ.c (.own 0)) (Par.q zal)) 1 [.rows 112]
theorem zkx:ze Tryz.prog 179 (zf7).spec :=
 sK (A:=⟨[],[],[],[[0],[0,4],[2],[2]],[]⟩) zhN fM Tryz.func179 (c:=(fb Tryz.f179)) (by kernel_rfl) (Lc:=0) trivial _ _ 5 _ _ _ _ _ _ [.nilown 2 112 (.asked [])] (by rintro a0;kernel_rfl)
def zft (a0:(List Packet)): Tr ((List Packet)) :=
 (.split (Sl.len (.packets a0)=0) (True)
  (.leaf [])
  (.guard ((Sl.len (.packets [])+Sl.len (.packets a0))*80≤140737488355328)
  (.leaf a0)))
def zbn (a0:(List Packet)):=(zft a0).run
def zky:SpecT:=zm 0 (Par.q zaz) 1 [] zft default (LQ.k (LQ.c (.own 0)) (Par.q zaz)) 1 [.rows 110]
theorem ztv:ze Tryz.prog 180 (zky).spec :=
 sK (A:=⟨[],[],[],[[0],[0,4],[2],[2]],[]⟩) zhN fM Tryz.func180 (c:=(fb Tryz.f180)) (by kernel_rfl) (Lc:=0) trivial _ _ 5 _ _ _ _ _ _ [.nilown 2 110 (.packets [])] (by rintro a0;kernel_rfl)
def zg3 (a0:(List Ripe)): Tr ((List Ripe)) :=
 (.split (Sl.len (.ripes a0)=0) (True)
  (.leaf [])
  (.guard ((Sl.len (.ripes [])+Sl.len (.ripes a0))*16≤140737488355328)
  (.leaf a0)))
def zf8 (a0:(List Ripe)):=(zg3 a0).run
def zmv:SpecT:=zm 0 (Par.q znw) 1 [] zg3 default (LQ.k (LQ.c (.own 0)) (Par.q znw)) 1 [.rows 119]
theorem zwd:ze Tryz.prog 129 (zmv).spec :=
 sK (A:=⟨[],[],[],[[0],[0,4],[2],[2]],[]⟩) zhN fM Tryz.func129 (c:=(fb Tryz.f129)) (by kernel_rfl) (Lc:=0) trivial _ _ 5 _ _ _ _ _ _ [.nilown 2 119 (.ripes [])] (by rintro a0;kernel_rfl)
def zg4 (a0:(List Deed)): Tr ((List Deed)) :=
 (.split (Sl.len (.deeds a0)=0) (True)
  (.leaf [])
  (.guard ((Sl.len (.deeds [])+Sl.len (.deeds a0))*48≤140737488355328)
  (.leaf a0)))
def zf9 (a0:(List Deed)):=(zg4 a0).run
def zmw:SpecT:=zm 0 (Par.q deedsP) 1 [] zg4 default (LQ.k (LQ.c (.own 0)) (Par.q deedsP)) 1 [.rows 28]
theorem zwe:ze Tryz.prog 16 (zmw).spec :=
 sK (A:=⟨[],[],[],[[0],[0,4],[2],[2]],[]⟩) zhN fM Tryz.func16 (c:=(fb Tryz.f16)) (by kernel_rfl) (Lc:=0) trivial _ _ 5 _ _ _ _ _ _ [.nilown 2 28 (.deeds [])] (by rintro a0;kernel_rfl)
def zxp (a0:Int): Tr (Bool) :=
 (.leaf (decide (a0 < 0)))
def z2b (a0:Int):=(zxp a0).run
def z5n:SpecT:=zm 0 (Par.q intP) 1 [] zxp default (Par.q boolP) 1 []
theorem zac9:ze Tryz.prog 150 (z5n).spec :=
 sK (A:=⟨[],[],[],[[0],[2]],[]⟩) zhN fM Tryz.func150 (c:=(fb Tryz.f150)) (by kernel_rfl) (Lc:=0) trivial _ _ 2 _ _ _ _ _ _ [] (by rintro a0;kernel_rfl)
def zv40:List (List Nat):=[[0,1],[0,1,7,8],[0,1,7,8,9],[0,1,5,7,8],[0,1,5,7,8,16],[4],[0,1,7,8],[4]]
noncomputable def zy40:EnvT:=⟨Tryz.prog,zw [(150,z5n)]⟩
theorem zh40:(zy40).Ok:=zd ⟨zac9,trivial⟩
def zdg (x0:(List Int)) (x1 x2:Int): Tr (((List Int)×Int×Int)⊕((Int)⊕(Unit))) :=
 (.ite (decide (x2 < x1))
  (.guard ((0:Int)≤x2∧x2 < ((Sl.len (.ints x0):Nat):Int))
  (.bind (z2b (x0.getD x2.toNat 0)) fun v1 =>
  (.ite (v1)
   (.leaf (.inr (.inl x2)))
   (.leaf (.inl (x0,x1,IntKind.i64.wrap (x2+1)))))))
  (.leaf (.inr (.inr ()))))
def zkc (x0:(List Int)) (x1 x2:Int):=zbp (fun s:(List Int)×Int×Int=>(zdg s.1 s.2.1 s.2.2).run) (x0,x1,x2)
def zbes:Ann:=⟨[],[],[],zv40,[]⟩
def zbet:=EndD.mk (LQ.v zbc (LQ.k (LQ.c (.fn 150 [])) (LQ.v intP (Par.q intP)))) ⟨[0,1,7,8],[.pub 0,.nilsl 0 (.ints [])]⟩ []
def za1f:=EndD.mk (Par.q intP) ⟨[4],[]⟩ []
def za1g:EndD (Unit):=⟨LQ.nil,⟨[],[]⟩,[]⟩
def za5p:St→Option LR:=L2 19 2 0 zbet .ret za1f (.exit 0) za1g (u3 zdg)
def zs40a:=sub (fb Tryz.f185) [0,1,0,1]
theorem zbeu:zk (zy40).env 0 zs40a za5p :=
 zkf (A:=zbes) zh40 fM trivial (k:=zab zs40a) (by kernel_rfl) rfl rfl (by rintro ⟨x0,x1,x2⟩;kernel_rfl)
def ze0 (a0:(List Int)): Tr (Int) :=
 (.two (zkc a0 ((a0.length:Nat):Int) 0) (fun v2 =>
  (.leaf v2)) (fun v3 =>
  (.leaf (-1))))
def zg5 (a0:(List Int)):=(ze0 a0).run
def znx:SpecT:=zm 0 (LQ.skipR (Par.q zbc) (LQ.c (.fn 150 []))) 2 [] ze0 default (Par.q intP) 1 []
theorem zxq:ze Tryz.prog 185 (znx).spec :=
 sK (A:=⟨[([0,1,0,1],za5p)],[],[],zv40,[]⟩) zh40 fM Tryz.func185 (c:=(fb Tryz.f185)) (by kernel_rfl) (Lc:=0) ⟨zbeu,trivial⟩ _ _ 2 _ _ _ _ _ _ [] (by rintro a0;kernel_rfl)
noncomputable def zy41:EnvT:=⟨Tryz.prog,zw [(185,znx)]⟩
theorem zh41:(zy41).Ok:=zd ⟨zxq,trivial⟩
def zfu (a0:(List Int)): Tr (Bool) :=
 (.bind (zg5 a0) fun v1 =>
 (.leaf (decide (v1≥0))))
def ze6 (a0:(List Int)):=(zfu a0).run
def zkz:SpecT:=zm 0 (LQ.skipR (Par.q zbc) (LQ.c (.fn 150 []))) 2 [] zfu default (Par.q boolP) 1 []
theorem ztw:ze Tryz.prog 149 (zkz).spec :=
 sK (A:=⟨[],[],[],[[0,1],[4]],[]⟩) zh41 fM Tryz.func149 (c:=(fb Tryz.f149)) (by kernel_rfl) (Lc:=0) trivial _ _ 2 _ _ _ _ _ _ [] (by rintro a0;kernel_rfl)
noncomputable def zy42:EnvT:=⟨Tryz.prog,zw [(149,zkz)]⟩
theorem zh42:(zy42).Ok:=zd ⟨ztw,trivial⟩
def z3p (a0:zcl): Tr (Bool) :=
 (.ite ((((((a0.Said.length:Nat):Int) != ((a0.Due.length:Nat):Int))||(decide (((a0.Said.length:Nat):Int) > 400)))||(decide (a0.Got < 0)))||(decide (a0.Got > ((a0.Said.length:Nat):Int))))
  (.leaf false)
  (.bind (ze6 a0.Due) fun v1 =>
  (.leaf (!v1))))
def zfb (a0:zcl):=(z3p a0).run
def zoa:SpecT:=zm 0 (Par.q (Par.ofLP lineL)) 1 [] z3p default (Par.q boolP) 1 []
theorem zpn:ze Tryz.prog 111 (zoa).spec :=
 sK (A:=⟨[],[],[],[[1],[1,28],[2],[2]],[]⟩) zh42 fM Tryz.func111 (c:=(fb Tryz.f111)) (by kernel_rfl) (Lc:=0) trivial _ _ 3 _ _ _ _ _ _ [] (by rintro a0;kernel_rfl)
noncomputable def zy43:EnvT:=⟨Tryz.prog,zw [(111,zoa),(199,zpm),(166,zmu)]⟩
theorem zh43:(zy43).Ok:=zd ⟨zpn,zyz,zsj,trivial⟩
def z68 (a0:zcl) (a1:ByteArray) (a2:Int): Tr (zcl×Int) :=
 (.bind (zfb a0) fun v1 =>
 (.ite ((!v1)||(decide (a2 < 0)))
  (.leaf (a0,2))
  (.ite (a0.Closed)
   (.leaf (a0,11))
   (.ite (decide (((a0.Said.length:Nat):Int)≥400))
    (.leaf (a0,6))
    (.guard ((zda a0.Said).isSome=true)
    (.guard ((Sl.len (.strs ((zda a0.Said).getD default))+Sl.len (.strs [a1]))*16≤140737488355328)
    (.guard ((zaf a0.Due).isSome=true)
    (.guard ((Sl.len (.ints ((zaf a0.Due).getD default))+Sl.len (.ints [a2]))*8≤140737488355328)
    (.leaf ({ a0 with Said:=((zda a0.Said).getD default)++[a1],Due:=((zaf a0.Due).getD default)++[a2] },0))))))))))
def zxr (a0:zcl) (a1:ByteArray) (a2:Int):=(z68 a0 a1 a2).run
def z69:SpecT:=zm 0 (LQ.v (Par.ofLP lineL) (LQ.v z43 (Par.q intP))) 3 [] (u3 z68) default (LQ.v (Par.ofLP lineL) (Par.q intP)) 2 []
theorem zaar:ze Tryz.prog 174 (z69).spec :=
 sK (A:=⟨[],[],[],[[1,2,3,6],[1,2,3,6,8],[6,7],[1,2,3,6,17],[6,7],[1,2,3,6,21],[6,7],[3,6],[6,7]],[]⟩) zh43 fM Tryz.func174 (c:=(fb Tryz.f174)) (by kernel_rfl) (Lc:=0) trivial _ _ 10 _ _ _ _ _ _ [.pubB 6] (by rintro ⟨a0,a1,a2⟩;kernel_rfl)
noncomputable def zy44:EnvT:=⟨Tryz.prog,zw [(111,zoa)]⟩
theorem zh44:(zy44).Ok:=zd ⟨zpn,trivial⟩
def zu7 (a0:zcl) (a1:Int) (a2:ByteArray) (a3 a4:Int): Tr (zcl×Int) :=
 (.bind (zfb a0) fun v1 =>
 (.ite (!v1)
  (.leaf (a0,2))
  (.ite (a0.Closed)
   (.leaf (a0,11))
   (.ite (a1 != (IntKind.i64.wrap (a0.Got+1)))
    (.leaf (a0,10))
    (.guard ((((decide (a1 > a3))||(decide (a1 > ((a0.Said.length:Nat):Int))))=false→((0:Int)≤(IntKind.i64.wrap (a1 - 1))∧(IntKind.i64.wrap (a1 - 1)) < ((Sl.len (.strs a0.Said):Nat):Int))∧True))
    (.ite (((decide (a1 > a3))||(decide (a1 > ((a0.Said.length:Nat):Int))))||(!((a0.Said.getD ((IntKind.i64.wrap (a1 - 1)).toNat) .empty).toList==a2.toList)))
     (.leaf (a0,9))
     (.guard ((0:Int)≤(IntKind.i64.wrap (a1 - 1))∧(IntKind.i64.wrap (a1 - 1)) < ((Sl.len (.ints a0.Due):Nat):Int))
     (.ite (decide (a4≥(a0.Due.getD ((IntKind.i64.wrap (a1 - 1)).toNat) 0)))
      (.leaf (a0,12))
      (.leaf ({ a0 with Got:=a1 },0))))))))))
def zo (a0:zcl) (a1:Int) (a2:ByteArray) (a3 a4:Int):=(zu7 a0 a1 a2 a3 a4).run
def z2c:SpecT:=zm 0 (LQ.v (Par.ofLP lineL) (LQ.v intP (LQ.v z43 (LQ.v intP (Par.q intP))))) 5 [] (u5 zu7) default (LQ.v (Par.ofLP lineL) (Par.q intP)) 2 []
theorem zaas:ze Tryz.prog 133 (z2c).spec :=
 sK (A:=⟨[],[],[],[[1,2,3,4,5,10],[1,2,3,4,5,10,12],[10,11],[1,2,3,4,5,10,17],[10,11],[1,2,3,4,5,10,21],[10,11],[1,4,5,10,28],[10,11],[1,5,10,50],[10,11],[5,10],[10,11]],[]⟩) zh44 fM Tryz.func133 (c:=(fb Tryz.f133)) (by kernel_rfl) (Lc:=0) trivial _ _ 4 _ _ _ _ _ _ [.pubB 10] (by rintro ⟨a0,a1,a2,a3,a4⟩;kernel_rfl)
noncomputable def zy45:EnvT:=⟨Tryz.prog,zw [(111,zoa)]⟩
theorem zh45:(zy45).Ok:=zd ⟨zpn,trivial⟩
def zxs (a0:zcl) (a1 a2 a3:Int): Tr (zcl×Int) :=
 (.bind (zfb a0) fun v1 =>
 (.ite (!v1)
  (.leaf (a0,2))
  (.ite (a0.Closed)
   (.leaf (a0,11))
   (.ite ((decide (a1 < 1))||(decide (a1 > ((a0.Said.length:Nat):Int))))
    (.leaf (a0,4))
    (.ite (decide (a1≤a3))
     (.leaf (a0,5))
     (.guard ((0:Int)≤(IntKind.i64.wrap (a1 - 1))∧(IntKind.i64.wrap (a1 - 1)) < ((Sl.len (.ints a0.Due):Nat):Int))
     (.ite (decide (a2 < (a0.Due.getD ((IntKind.i64.wrap (a1 - 1)).toNat) 0)))
      (.leaf (a0,13))
      (.leaf ({ a0 with Closed:=true },0)))))))))
def zpb (a0:zcl) (a1 a2 a3:Int):=(zxs a0 a1 a2 a3).run
def z5o:SpecT:=zm 0 (LQ.v (Par.ofLP lineL) (LQ.v intP (LQ.v intP (Par.q intP)))) 4 [] (u4 zxs) default (LQ.v (Par.ofLP lineL) (Par.q intP)) 2 []
theorem zada:ze Tryz.prog 136 (z5o).spec :=
 sK (A:=⟨[],[],[],[[1,2,3,4,8],[1,2,3,4,8,10],[8,9],[1,2,3,4,8,15],[8,9],[1,2,3,4,8,19],[8,9],[1,2,4,8,30],[8,9],[4,8,35],[8,9],[4,8],[8,9]],[]⟩) zh45 fM Tryz.func136 (c:=(fb Tryz.f136)) (by kernel_rfl) (Lc:=0) trivial _ _ 4 _ _ _ _ _ _ [.pubB 8] (by rintro ⟨a0,a1,a2,a3⟩;kernel_rfl)
def zu8 (a0:zcl): Tr (zcl) :=
 (.guard ((0+Sl.len (.strs a0.Said))*16≤140737488355328)
 (.guard ((0+Sl.len (.ints a0.Due))*8≤140737488355328)
 (.leaf a0)))
def zcn (a0:zcl):=(zu8 a0).run
def zh2:SpecT:=zm 0 (Par.q (Par.ofLP lineL)) 1 [] zu8 default (LQ.map (LQ.seq (LQ.agg (LQ.k (LQ.c (.own 0)) (LQ.k (LQ.c (.own 1)) (LQ.v intP (Par.q boolP))))) (LQ.v z6x (Par.q zbc))) (fun x=>(⟨x.2.1,x.2.2,x.1.1,x.1.2⟩:zcl)) (fun y=>((y.Got,y.Closed),y.Said,y.Due)) (fun _=>rfl)) 1 [.rows 9,.rows 3]
theorem zi7:ze Tryz.prog 76 (zh2).spec :=
 sK (A:=⟨[],[],[],[[1,2],[1,2],[2]],[]⟩) zhN fM Tryz.func76 (c:=(fb Tryz.f76)) (by kernel_rfl) (Lc:=0) trivial _ _ 6 _ _ _ _ _ _ [] (by rintro a0;kernel_rfl)
def zqg (a0:zcl): Tr (zcl) :=
 (.guard ((0+Sl.len (.strs a0.Said))*16≤140737488355328)
 (.guard ((0+Sl.len (.ints a0.Due))*8≤140737488355328)
 (.leaf a0)))
def zaj (a0:zcl):=(zqg a0).run
def zqh:SpecT:=zm 0 (Par.q (Par.ofLP lineL)) 1 [] zqg default (Par.q (Par.ofLP lineL)) 1 []
theorem zwf:ze Tryz.prog 76 (zqh).spec :=
 sK (A:=⟨[],[],[],[[1,2],[1,2],[2]],[]⟩) zhN fM Tryz.func76 (c:=(fb Tryz.f76)) (by kernel_rfl) (Lc:=0) trivial _ _ 6 _ _ _ _ _ _ [.pubB 2] (by rintro a0;kernel_rfl)
def za5q:List (List Nat):=[[1],[1,6,7,8],[1,6,7,8,9],[1,4,6,7,8],[1,6,7,8,13],[2],[1,6,7,8],[2]]
def zjz (x0:(List Int)) (x1 x2:Int) (x3:zcl): Tr (((List Int)×Int×Int×zcl)⊕((Bool)⊕(zcl))) :=
 (.ite (decide (x2 < x1))
  (.guard ((0:Int)≤x2∧x2 < ((Sl.len (.ints x0):Nat):Int))
  (.ite (decide ((x0.getD x2.toNat 0) < 0))
   (.leaf (.inr (.inl false)))
   (.leaf (.inl (x0,x1,IntKind.i64.wrap (x2+1),x3)))))
  (.leaf (.inr (.inr x3))))
def zub (x0:(List Int)) (x1 x2:Int) (x3:zcl):=zbp (fun s:(List Int)×Int×Int×zcl=>(zjz s.1 s.2.1 s.2.2.1 s.2.2.2).run) (x0,x1,x2,x3)
def za5r:Ann:=⟨[],[],[],za5q,[]⟩
def za5s:=EndD.mk (LQ.kp 0 0 (LQ.v zbc (LQ.v intP (LQ.v intP (LP.q lineL))))) ⟨[1,6,7,8],[.pub 6,.nilsl 6 (.ints [])]⟩ [.cells 53 4]
def zauc:=EndD.mk (Par.q boolP) ⟨[2],[]⟩ []
def zaud:=EndD.mk (LQ.kp 0 0 (LP.q lineL)) ⟨[1],[]⟩ [.cells 53 4]
def zay0:St→Option LR:=L2 41 3 0 za5s .ret zauc (.exit 0) zaud (u4 zjz)
def zs122a:=sub (fb Tryz.f75) [0,1,0,1]
theorem za5t:zk (zyN).env 0 zs122a zay0 :=
 zkf (A:=za5r) zhN fM trivial (k:=zab zs122a) (by kernel_rfl) rfl rfl (by rintro ⟨x0,x1,x2,x3⟩;kernel_rfl)
def zu9 (a0:zcl): Tr (Bool) :=
 (.two (zub a0.Due ((a0.Due.length:Nat):Int) 0 a0) (fun v1 =>
  (.leaf v1)) (fun v2 =>
  (.leaf ((((((v2.Said.length:Nat):Int)==((v2.Due.length:Nat):Int))&&(decide (((v2.Said.length:Nat):Int)≤400)))&&(decide (v2.Got≥0)))&&(decide (v2.Got≤((v2.Said.length:Nat):Int)))))))
def zby (a0:zcl):=(zu9 a0).run
def zh7:SpecT:=zm 0 (Par.q (Par.ofLP lineL)) 1 [] zu9 default (Par.q boolP) 1 []
theorem zi8:ze Tryz.prog 75 (zh7).spec :=
 sK (A:=⟨[([0,1,0,1],zay0)],[],[],za5q,[]⟩) zhN fM Tryz.func75 (c:=(fb Tryz.f75)) (by kernel_rfl) (Lc:=0) ⟨za5t,trivial⟩ _ _ 3 _ _ _ _ _ _ [] (by rintro a0;kernel_rfl)
noncomputable def zbev:EnvT:=⟨Tryz.prog,zw [(75,zh7),(76,zh2)]⟩
theorem zbew:(zbev).Ok:=zd ⟨zi8,zi7,trivial⟩
def zaat (a0:zcl) (a1:ByteArray) (a2:Int): Tr (zcl×Int) :=
 (.bind (zby a0) fun v1 =>
 (.ite ((!v1)||(decide (a2 < 0)))
  (.leaf (a0,2))
  (.ite (a0.Closed)
   (.leaf (a0,11))
   (.ite (((a0.Said.length:Nat):Int)==400)
    (.leaf (a0,6))
    (.bind (zcn a0) fun v2 =>
    (.guard ((Sl.len (.strs v2.Said)+Sl.len (.strs [a1]))*16≤140737488355328)
    (.guard ((Sl.len (.ints v2.Due)+Sl.len (.ints [a2]))*8≤140737488355328)
    (.leaf ({ v2 with Said:=v2.Said++[a1],Due:=v2.Due++[a2] },0)))))))))
def z1i (a0:zcl) (a1:ByteArray) (a2:Int):=(zaat a0 a1 a2).run
def zaau:SpecT:=zm 0 (LQ.v (Par.ofLP lineL) (LQ.v z43 (Par.q intP))) 3 [] (u3 zaat) default (LQ.v (Par.ofLP lineL) (Par.q intP)) 2 []
theorem zaec:ze Tryz.prog 65 (zaau).spec :=
 sK (A:=⟨[],[],[],[[1,2,3,6],[1,2,3,6,15],[6,7],[1,2,3,6,18],[6,7],[1,2,3,6,23],[6,7],[1,2,6,8],[6,8],[6,7]],[]⟩) zbew fM Tryz.func65 (c:=(fb Tryz.f65)) (by kernel_rfl) (Lc:=0) trivial _ _ 11 _ _ _ _ _ _ [.pubB 6] (by rintro ⟨a0,a1,a2⟩;kernel_rfl)
noncomputable def zbex:EnvT:=⟨Tryz.prog,zw [(75,zh7),(76,zh2)]⟩
theorem zbey:(zbex).Ok:=zd ⟨zi8,zi7,trivial⟩
def zxt (a0:zcl) (a1:Int) (a2:ByteArray) (a3 a4:Int): Tr (zcl×Int) :=
 (.bind (zby a0) fun v1 =>
 (.ite (!v1)
  (.leaf (a0,2))
  (.ite (a0.Closed)
   (.leaf (a0,11))
   (.ite ((decide (a1 < 1))||((IntKind.i64.wrap (a1 - 1)) != a0.Got))
    (.leaf (a0,10))
    (.guard ((((decide (a3 < a1))||(decide (((a0.Said.length:Nat):Int) < a1)))=false→((0:Int)≤a0.Got∧a0.Got < ((Sl.len (.strs a0.Said):Nat):Int))∧True))
    (.ite (((decide (a3 < a1))||(decide (((a0.Said.length:Nat):Int) < a1)))||(!(a2.toList==(a0.Said.getD a0.Got.toNat .empty).toList)))
     (.leaf (a0,9))
     (.guard ((0:Int)≤a0.Got∧a0.Got < ((Sl.len (.ints a0.Due):Nat):Int))
     (.ite (decide ((a0.Due.getD a0.Got.toNat 0)≤a4))
      (.leaf (a0,12))
      (.bind (zcn a0) fun v2 =>
      (.leaf ({ v2 with Got:=IntKind.i64.wrap (v2.Got+1) },0)))))))))))
def zah (a0:zcl) (a1:Int) (a2:ByteArray) (a3 a4:Int):=(zxt a0 a1 a2 a3 a4).run
def z5p:SpecT:=zm 0 (LQ.v (Par.ofLP lineL) (LQ.v intP (LQ.v z43 (LQ.v intP (Par.q intP))))) 5 [] (u5 zxt) default (LQ.v (Par.ofLP lineL) (Par.q intP)) 2 []
theorem zadb:ze Tryz.prog 72 (z5p).spec :=
 sK (A:=⟨[],[],[],[[1,2,3,4,5,10],[1,2,3,4,5,10,15],[10,11],[1,2,3,4,5,10,18],[10,11],[1,2,3,4,5,10,28],[10,11],[4,5,10,49],[10,11],[5,10,58],[10,11],[10,12],[10,12],[10,11]],[]⟩) zbey fM Tryz.func72 (c:=(fb Tryz.f72)) (by kernel_rfl) (Lc:=0) trivial _ _ 7 _ _ _ _ _ _ [.pubB 10] (by rintro ⟨a0,a1,a2,a3,a4⟩;kernel_rfl)
noncomputable def zbez:EnvT:=⟨Tryz.prog,zw [(75,zh7),(76,zh2)]⟩
theorem zbe0:(zbez).Ok:=zd ⟨zi8,zi7,trivial⟩
def zz4 (a0:zcl) (a1 a2 a3:Int): Tr (zcl×Int) :=
 (.bind (zby a0) fun v1 =>
 (.ite (!v1)
  (.leaf (a0,2))
  (.ite (a0.Closed)
   (.leaf (a0,11))
   (.ite ((decide (a1 < 1))||(decide (((a0.Said.length:Nat):Int) < a1)))
    (.leaf (a0,4))
    (.ite (decide (a3≥a1))
     (.leaf (a0,5))
     (.guard ((0:Int)≤(IntKind.i64.wrap (a1 - 1))∧(IntKind.i64.wrap (a1 - 1)) < ((Sl.len (.ints a0.Due):Nat):Int))
     (.ite (decide ((a0.Due.getD ((IntKind.i64.wrap (a1 - 1)).toNat) 0) > a2))
      (.leaf (a0,13))
      (.bind (zcn a0) fun v2 =>
      (.leaf ({ v2 with Closed:=true },0))))))))))
def zb3 (a0:zcl) (a1 a2 a3:Int):=(zz4 a0 a1 a2 a3).run
def z8a:SpecT:=zm 0 (LQ.v (Par.ofLP lineL) (LQ.v intP (LQ.v intP (Par.q intP)))) 4 [] (u4 zz4) default (LQ.v (Par.ofLP lineL) (Par.q intP)) 2 []
theorem zagd:ze Tryz.prog 30 (z8a).spec :=
 sK (A:=⟨[],[],[],[[1,2,3,4,8],[1,2,3,4,8,13],[8,9],[1,2,3,4,8,16],[8,9],[1,2,3,4,8,26],[8,9],[1,2,4,8,30],[8,9],[4,8,39],[8,9],[8,10],[8,10],[8,9]],[]⟩) zbe0 fM Tryz.func30 (c:=(fb Tryz.f30)) (by kernel_rfl) (Lc:=0) trivial _ _ 7 _ _ _ _ _ _ [.pubB 8] (by rintro ⟨a0,a1,a2,a3⟩;kernel_rfl)
end
