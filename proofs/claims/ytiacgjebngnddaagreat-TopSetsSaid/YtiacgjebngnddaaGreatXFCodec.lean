/-
  The functions, each by its tree.
-/
import Derived.Test.YtiacgjebngnddaaGreatXAbC
import Derived.Test.YtiacgjebngnddaaGreatXFLine
import Derived.Test.YtiacgjebngnddaaGreatXFRatio
import Derived.Test.YtiacgjebngnddaaGreatXFacts
namespace Go.Proofs.YtiacgjebngnddaaGreat.Ab
open Go Go.RowKit
open Go.IntKind (i64 u64)
set_option maxRecDepth 100000
set_option linter.unusedVariables false
set_option linter.unusedSimpArgs false
noncomputable section
def zv45:List (List Nat):=[[0,1],[0,1,7,8,9],[0,1,7,8,9,10],[0,1,5,6,7,8,9],[0,1,7,8,9,47],[4],[0,1,7,8,9],[4]]
def zge (x0:(List Power)) (x1:Int) (x2:(List Power)) (x3 x4:Int): Tr (((List Power)×Int×(List Power)×Int×Int)⊕((Bool)⊕(Unit))) :=
 (.ite (decide (x4 < x3))
  (.guard ((0:Int)≤x4∧x4 < ((Sl.len (.powers x2):Nat):Int))
  (.guard (((decide (x4 > 0))=true→(((decide (((x2.getD x4.toNat default).V) < 0))||(decide (((x2.getD x4.toNat default).V)≥6)))=false→((0:Int)≤(i64.wrap (x4 - 1))∧(i64.wrap (x4 - 1)) < ((Sl.len (.powers x0):Nat):Int))∧True)))
  (.ite (((((decide (((x2.getD x4.toNat default).V) < 0))||(decide (((x2.getD x4.toNat default).V)≥6)))||((decide (x4 > 0))&&(decide (((x0.getD ((i64.wrap (x4 - 1)).toNat) default).V)≥((x2.getD x4.toNat default).V)))))||(decide (((x2.getD x4.toNat default).N) < x1)))||(decide (((x2.getD x4.toNat default).N) > 1125899906842624)))
   (.leaf (.inr (.inl false)))
   (.leaf (.inl (x0,x1,x2,x3,i64.wrap (x4+1)))))))
  (.leaf (.inr (.inr ()))))
def znw (x0:(List Power)) (x1:Int) (x2:(List Power)) (x3 x4:Int):=zd3 (fun s:(List Power)×Int×(List Power)×Int×Int=>(zge s.1 s.2.1 s.2.2.1 s.2.2.2.1 s.2.2.2.2).run) (x0,x1,x2,x3,x4)
def zatp:Ann:=⟨[],[],[],zv45,[]⟩
def zatq:=EndD.mk (LQ.v zn (LQ.v intP (LQ.v zn (LQ.v intP (Par.q intP))))) ⟨[0,1,7,8,9],[.pub 0,.nilsl 0 (.powers []),.pub 7,.nilsl 7 (.powers [])]⟩ []
def zalw:=EndD.mk (Par.q boolP) ⟨[4],[]⟩ []
def zalx:EndD (Unit):=⟨LQ.nil,⟨[],[]⟩,[]⟩
def zapr:St→Option LR:=L2 49 3 0 zatq .ret zalw (.exit 0) zalx (u5 zge)
def zs45a:=sub (fb Tryz.f39) [0,1,0,1]
theorem zatr:zt (zyN).env 0 zs45a zapr :=
 zoc (A:=zatp) zhN fM trivial (k:=zch zs45a) (by kernel_rfl) rfl rfl (by rintro ⟨x0,x1,x2,x3,x4⟩;kernel_rfl)
def zoo (a0:(List Power)) (a1:Int): Tr (Bool) :=
 (.two (znw a0 a1 a0 ((a0.length:Nat):Int) 0) (fun v1 =>
  (.leaf v1)) (fun v2 =>
  (.leaf true)))
def zmk (a0:(List Power)) (a1:Int):=(zoo a0 a1).run
def zt0:SpecT:=zr 0 (LQ.v zn (Par.q intP)) 2 [] (u2 zoo) default (Par.q boolP) 1 []
theorem z0a:zg Tryz.prog 39 (zt0).spec :=
 sK (A:=⟨[([0,1,0,1],zapr)],[],[],zv45,[]⟩) zhN fM Tryz.func39 (c:=(fb Tryz.f39)) (by kernel_rfl) (Lc:=0) ⟨zatr,trivial⟩ _ _ 3 _ _ _ _ _ _ [] (by rintro ⟨a0,a1⟩;kernel_rfl)
def zv46:List (List Nat):=[[1],[1,5],[2],[1,14],[2],[1,23],[2],[1,47],[2],[1,76],[2],[1,82,83,84],[1,82,83,84,85],[1,3,4,82,83,84],[1,82,83,84,108],[2],[1,82,83,84],[2]]
noncomputable def zy46:EnvT:=⟨Tryz.prog,zac [(39,zt0)]⟩
theorem zh46:(zy46).Ok:=zf ⟨z0a,trivial⟩
def zio (x0:(List Int)) (x1 x2:Int) (x3:Packet): Tr (((List Int)×Int×Int×Packet)⊕((Int)⊕(Unit))) :=
 (.ite (decide (x2 < x1))
  (.guard ((0:Int)≤x2∧x2 < ((Sl.len (.ints x0):Nat):Int))
  (.guard (((decide (x2 > 0))=true→(((decide ((x0.getD x2.toNat 0) < 0))||(decide ((x0.getD x2.toNat 0)≥6)))=false→((0:Int)≤(i64.wrap (x2 - 1))∧(i64.wrap (x2 - 1)) < ((Sl.len (.ints x3.Done):Nat):Int))∧True)))
  (.ite (((decide ((x0.getD x2.toNat 0) < 0))||(decide ((x0.getD x2.toNat 0)≥6)))||((decide (x2 > 0))&&(decide ((x3.Done.getD ((i64.wrap (x2 - 1)).toNat) 0)≥(x0.getD x2.toNat 0)))))
   (.leaf (.inr (.inl 2)))
   (.leaf (.inl (x0,x1,i64.wrap (x2+1),x3))))))
  (.leaf (.inr (.inr ()))))
def zq6 (x0:(List Int)) (x1 x2:Int) (x3:Packet):=zd3 (fun s:(List Int)×Int×Int×Packet=>(zio s.1 s.2.1 s.2.2.1 s.2.2.2).run) (x0,x1,x2,x3)
def zats:Ann:=⟨[],[],[],zv46,[]⟩
def zatt:=EndD.mk (LQ.kp 0 0 (LQ.v zfw (LQ.v intP (LQ.v intP (LP.q zje))))) ⟨[1,82,83,84],[.pub 82,.nilsl 82 (.ints [])]⟩ [.cells 73 6]
def zaly:=EndD.mk (Par.q intP) ⟨[2],[]⟩ []
def zalz:EndD (Unit):=⟨LQ.nil,⟨[],[]⟩,[]⟩
def zaps:St→Option LR:=L2 110 3 0 zatt .ret zaly (.exit 1) zalz (u4 zio)
def zs46a:=sub (fb Tryz.f29) [0,1,0,1,1]
theorem zatu:zt (zy46).env 0 zs46a zaps :=
 zoc (A:=zats) zh46 fM trivial (k:=zch zs46a) (by kernel_rfl) rfl rfl (by rintro ⟨x0,x1,x2,x3⟩;kernel_rfl)
def zr1 (a0:Packet): Tr (Int) :=
 (.ite ((decide (a0.Kind < 1))||(decide (a0.Kind > 4)))
  (.leaf 3)
  (.ite ((decide (a0.Id < 1))||(decide (a0.Id > 1099511627776)))
   (.leaf 2)
   (.ite ((decide (a0.Kind≥3))&&((((decide (a0.V < 0))||(decide (a0.V≥6)))||(decide (a0.N < 1)))||(decide (a0.N > 1125899906842624))))
    (.leaf 2)
    (.ite (((decide (a0.Kind≤2))&&((a0.V != 0)||(a0.N != 0)))||((a0.Kind != 1)&&(decide ((i64.wrap (((a0.Set.length:Nat):Int)+((a0.Done.length:Nat):Int))) > 0))))
     (.leaf 1)
     (.bind (zmk a0.Set 0) fun v1 =>
     (.ite (!v1)
      (.leaf 2)
      (.two (zq6 a0.Done ((a0.Done.length:Nat):Int) 0 a0) (fun v2 =>
       (.leaf v2)) (fun v3 =>
       (.leaf 0)))))))))
def ze2 (a0:Packet):=(zr1 a0).run
def zkn:SpecT:=zr 0 (Par.q (Par.ofLP zje)) 1 [] zr1 default (Par.q intP) 1 []
theorem zl2:zg Tryz.prog 29 (zkn).spec :=
 sK (A:=⟨[([0,1,0,1,1],zaps)],[],[],zv46,[]⟩) zh46 fM Tryz.func29 (c:=(fb Tryz.f29)) (by kernel_rfl) (Lc:=0) ⟨zatu,trivial⟩ _ _ 3 _ _ _ _ _ _ [] (by rintro a0;kernel_rfl)
def zv47:List (List Nat):=[[0,1,2],[0,1,7],[0,1,7,11],[0,1,7],[0,1,7],[6]]
def zj8 (x0 x1:Int) (x2:(List UInt8)): Tr ((Int×Int×(List UInt8))⊕((List UInt8))) :=
 (.ite (decide (x1≥0))
  (.guard ((0:Int)≤(u64.wrap (i64.wrap (8*x1))))
  (.guard (0≤(IntKind.u8.wrap (Int.fdiv x0 (2 ^ (min (u64.wrap (i64.wrap (8*x1))).toNat 64))))∧(IntKind.u8.wrap (Int.fdiv x0 (2 ^ (min (u64.wrap (i64.wrap (8*x1))).toNat 64)))) < 256)
  (.guard ((Sl.len (.bytes x2)+Sl.len (.bytes [UInt8.ofNat (IntKind.u8.wrap (Int.fdiv x0 (2 ^ (min (u64.wrap (i64.wrap (8*x1))).toNat 64)))).toNat]))*1≤140737488355328)
  (.leaf (.inl (x0,i64.wrap (x1 - 1),x2++[UInt8.ofNat (IntKind.u8.wrap (Int.fdiv x0 (2 ^ (min (u64.wrap (i64.wrap (8*x1))).toNat 64)))).toNat]))))))
  (.leaf (.inr x2)))
def zml (x0 x1:Int) (x2:(List UInt8)):=zd3 (fun s:Int×Int×(List UInt8)=>(zj8 s.1 s.2.1 s.2.2).run) (x0,x1,x2)
def zatv:Ann:=⟨[],[],[],zv47,[]⟩
def zatw:=EndD.mk (LQ.k (LQ.c (.own 0)) (LQ.v intP (LQ.v intP (Par.q zvq)))) ⟨[0,1,7],[.nilown 0 5 (.bytes [])]⟩ [.rows 5]
def zal0:=EndD.mk (LQ.k (LQ.c (.own 0)) (Par.q zvq)) ⟨[0],[.nilown 0 5 (.bytes [])]⟩ [.rows 5]
def zapt:St→Option LR:=L1 24 5 0 zatw (.exit 0) zal0 (u3 zj8)
def zs47a:=sub (fb Tryz.f136) [0,1,0,1]
theorem zatx:zt (zyN).env 0 zs47a zapt :=
 zhm (A:=zatv) zhN fM trivial (k:=zch zs47a) (by kernel_rfl) rfl (by rintro ⟨x0,x1,x2⟩;kernel_rfl)
def zuz (a0 a1:Int) (a2:(List UInt8)): Tr ((List UInt8)) :=
 (.bind (zml a0 (i64.wrap (a1 - 1)) a2) fun v1 =>
 (.leaf v1))
def zm (a0 a1:Int) (a2:(List UInt8)):=(zuz a0 a1 a2).run
def z0b:SpecT:=zr 0 (LQ.k (LQ.c (.own 0)) (LQ.v intP (LQ.v intP (Par.q zvq)))) 3 [.rows 5] (u3 zuz) default (LQ.k (LQ.c (.own 0)) (Par.q zvq)) 1 [.rows 5]
theorem z6r:zg Tryz.prog 136 (z0b).spec :=
 sK (A:=⟨[([0,1,0,1],zapt)],[],[],zv47,[]⟩) zhN fM Tryz.func136 (c:=(fb Tryz.f136)) (by kernel_rfl) (Lc:=0) ⟨zatx,trivial⟩ _ _ 5 _ _ _ _ _ _ [.nilown 6 5 (.bytes [])] (by rintro ⟨a0,a1,a2⟩;kernel_rfl)
def zv48:List (List Nat):=[[1],[1,4],[1,4,13],[2,3],[1,5],[1,5],[1,5,34,35,36],[1,5,34,35,36,37],[1,5,7,34,35,36],[1,5,34,35,36],[1,5,34,35,36],[1,5],[5,54,55,56],[5,54,55,56,57],[5,9,54,55,56],[5,54,55,56],[5,54,55,56],[2,3]]
noncomputable def zy48:EnvT:=⟨Tryz.prog,zac [(29,zkn),(136,z0b)]⟩
theorem zh48:(zy48).Ok:=zf ⟨zl2,z6r,trivial⟩
def zgf (x0:(List Power)) (x1 x2:Int) (x3:Packet) (x4:(List UInt8)): Tr (((List Power)×Int×Int×Packet×(List UInt8))⊕(Packet×(List UInt8))) :=
 (.ite (decide (x2 < x1))
  (.guard ((0:Int)≤x2∧x2 < ((Sl.len (.powers x0):Nat):Int))
  (.guard ((zm ((x0.getD x2.toNat default).V) 1 x4).isSome=true)
  (.guard ((zm ((x0.getD x2.toNat default).N) 7 ((zm ((x0.getD x2.toNat default).V) 1 x4).getD default)).isSome=true)
  (.leaf (.inl (x0,x1,i64.wrap (x2+1),x3,((zm ((x0.getD x2.toNat default).N) 7 ((zm ((x0.getD x2.toNat default).V) 1 x4).getD default)).getD default)))))))
  (.leaf (.inr (x3,x4))))
def ziq (x0:(List Power)) (x1 x2:Int) (x3:Packet) (x4:(List UInt8)):=zd3 (fun s:(List Power)×Int×Int×Packet×(List UInt8)=>(zgf s.1 s.2.1 s.2.2.1 s.2.2.2.1 s.2.2.2.2).run) (x0,x1,x2,x3,x4)
def zat1:Ann:=⟨[],[],[],zv48,[]⟩
def zat2:=EndD.mk (LQ.kp 0 0 (LQ.k (LQ.c (.own 1)) (LQ.v zn (LQ.v intP (LQ.v intP (LQ.seq (LP.q zje) (Par.q zvq))))))) ⟨[1,5,34,35,36],[.nilown 5 5 (.bytes []),.pub 34,.nilsl 34 (.powers [])]⟩ [.cells 73 6,.rows 5]
def zal1:=EndD.mk (LQ.kp 0 0 (LQ.k (LQ.c (.own 1)) (LQ.seq (LP.q zje) (Par.q zvq)))) ⟨[1,5],[.nilown 5 5 (.bytes [])]⟩ [.cells 73 6,.rows 5]
def zapu:St→Option LR:=L1 66 8 0 zat2 (.exit 0) zal1 (u5 zgf)
def zs48a:=sub (fb Tryz.f113) [0,1,0,1,1,1,1]
theorem zat3:zt (zy48).env 0 zs48a zapu :=
 zhm (A:=zat1) zh48 fM trivial (k:=zch zs48a) (by kernel_rfl) rfl (by rintro ⟨x0,x1,x2,x3,x4⟩;kernel_rfl)
def zgg (x0:(List Int)) (x1 x2:Int) (x3:(List UInt8)): Tr (((List Int)×Int×Int×(List UInt8))⊕((List UInt8))) :=
 (.ite (decide (x2 < x1))
  (.guard ((0:Int)≤x2∧x2 < ((Sl.len (.ints x0):Nat):Int))
  (.bind (zm (x0.getD x2.toNat 0) 1 x3) fun v4 =>
  (.leaf (.inl (x0,x1,i64.wrap (x2+1),v4)))))
  (.leaf (.inr x3)))
def zir (x0:(List Int)) (x1 x2:Int) (x3:(List UInt8)):=zd3 (fun s:(List Int)×Int×Int×(List UInt8)=>(zgg s.1 s.2.1 s.2.2.1 s.2.2.2).run) (x0,x1,x2,x3)
def zat4:Ann:=⟨[],[],[],zv48,[]⟩
def zat5:=EndD.mk (LQ.k (LQ.c (.own 0)) (LQ.v zfw (LQ.v intP (LQ.v intP (Par.q zvq))))) ⟨[5,54,55,56],[.nilown 5 5 (.bytes []),.pub 54,.nilsl 54 (.ints [])]⟩ [.rows 5]
def zal2:=EndD.mk (LQ.k (LQ.c (.own 0)) (Par.q zvq)) ⟨[5],[.nilown 5 5 (.bytes [])]⟩ [.rows 5]
def zapv:St→Option LR:=L1 66 8 0 zat5 (.exit 2) zal2 (u4 zgg)
def zs48b:=sub (fb Tryz.f113) [0,1,0,1,1,1,1,1,1]
theorem zat6:zt (zy48).env 0 zs48b zapv :=
 zhm (A:=zat4) zh48 fM trivial (k:=zch zs48b) (by kernel_rfl) rfl (by rintro ⟨x0,x1,x2,x3⟩;kernel_rfl)
def zop (a0:Packet): Tr (ByteArray×Int) :=
 (.bind (ze2 a0) fun v1 =>
 (.ite (v1 != 0)
  (.leaf ((⟨#[]⟩:ByteArray),v1))
  (.guard (0≤(IntKind.u8.wrap a0.Kind)∧(IntKind.u8.wrap a0.Kind) < 256)
  (.guard ((zm a0.Id 6 [UInt8.ofNat (IntKind.u8.wrap a0.Kind).toNat]).isSome=true)
  (.guard ((zm a0.V 1 ((zm a0.Id 6 [UInt8.ofNat (IntKind.u8.wrap a0.Kind).toNat]).getD default)).isSome=true)
  (.guard ((zm a0.N 7 ((zm a0.V 1 ((zm a0.Id 6 [UInt8.ofNat (IntKind.u8.wrap a0.Kind).toNat]).getD default)).getD default)).isSome=true)
  (.guard ((zm ((a0.Set.length:Nat):Int) 1 ((zm a0.N 7 ((zm a0.V 1 ((zm a0.Id 6 [UInt8.ofNat (IntKind.u8.wrap a0.Kind).toNat]).getD default)).getD default)).getD default)).isSome=true)
  (.bind (ziq a0.Set ((a0.Set.length:Nat):Int) 0 a0 ((zm ((a0.Set.length:Nat):Int) 1 ((zm a0.N 7 ((zm a0.V 1 ((zm a0.Id 6 [UInt8.ofNat (IntKind.u8.wrap a0.Kind).toNat]).getD default)).getD default)).getD default)).getD default)) fun v2 =>
  (.bind (zm ((v2.1.Done.length:Nat):Int) 1 v2.2) fun v3 =>
  (.bind (zir v2.1.Done ((v2.1.Done.length:Nat):Int) 0 v3) fun v5 =>
  (.leaf ((⟨v5.toArray⟩:ByteArray),0))))))))))))
def za7 (a0:Packet):=(zop a0).run
def zj9:SpecT:=zr 0 (Par.q (Par.ofLP zje)) 1 [] zop default (LQ.v strP (Par.q intP)) 2 []
theorem zmm:zg Tryz.prog 113 (zj9).spec :=
 sK (A:=⟨[([0,1,0,1,1,1,1],zapu),([0,1,0,1,1,1,1,1,1],zapv)],[],[],zv48,[]⟩) zh48 fM Tryz.func113 (c:=(fb Tryz.f113)) (by kernel_rfl) (Lc:=0) ⟨zat3,zat6,trivial⟩ _ _ 8 _ _ _ _ _ _ [] (by rintro a0;kernel_rfl)
def zv49:List (List Nat):=[[0,1],[0,1,14],[],[4],[0,1,5],[0,1,5,27,28,29],[0,1,5,27,28,29,30],[0,1,5,7,27,28,29],[0,1,5,27,28,29],[0,1,5,27,28,29],[5],[4]]
def zbj (x0 x1:Int) (x2:(List UInt8)) (x3 x4:Int) (x5:zd6): Tr ((Int×Int×(List UInt8)×Int×Int×zd6)⊕(Int×Int×zd6)) :=
 (.ite (decide (x4 < x3))
  (.guard ((0:Int)≤x4∧x4 < ((Sl.len (.bytes x2):Nat):Int))
  (.guard ((0:Int)≤8)
  (.leaf (.inl (x0,i64.wrap (((BitVec.ofInt 64 (i64.wrap (x1*2 ^ 8)) ||| BitVec.ofInt 64 (i64.wrap (((x2.getD x4.toNat 0).toNat:Nat):Int))).toNat:Nat):Int),x2,x3,i64.wrap (x4+1),x5)))))
  (.leaf (.inr (x0,x1,x5))))
def zec (x0 x1:Int) (x2:(List UInt8)) (x3 x4:Int) (x5:zd6):=zd3 (fun s:Int×Int×(List UInt8)×Int×Int×zd6=>(zbj s.1 s.2.1 s.2.2.1 s.2.2.2.1 s.2.2.2.2.1 s.2.2.2.2.2).run) (x0,x1,x2,x3,x4,x5)
def zat7:Ann:=⟨[],[],[],zv49,[]⟩
def zat8:=EndD.mk (LQ.kp 0 0 (LQ.v intP (LQ.v intP (LQ.v zvq (LQ.v intP (LQ.v intP (LP.q zxy))))))) ⟨[0,1,5,27,28,29],[.pub 27,.nilsl 27 (.bytes [])]⟩ [.cells 106 2]
def zal3:=EndD.mk (LQ.kp 0 0 (LQ.v intP (LQ.v intP (LP.q zxy)))) ⟨[0,1,5],[]⟩ [.cells 106 2]
def zapw:St→Option LR:=L1 49 3 1 zat8 (.exit 0) zal3 (u6 zbj)
def zs49a:=sub (fb Tryz.f28) [0,1,0,1,1,1]
theorem zat9:zt (zyN).env 1 zs49a zapw :=
 zhm (A:=zat7) zhN fM trivial (k:=zch zs49a) (by kernel_rfl) rfl (by rintro ⟨x0,x1,x2,x3,x4,x5⟩;kernel_rfl)
def zgp (a0:Int) (a1:zd6): Tr (Int×zd6) :=
 (.ite (decide (a0 > ((a1.s.size:Nat):Int)))
  (.leaf (0,(⟨(⟨#[]⟩:ByteArray),true⟩:zd6)))
  (.guard ((0:Int)≤0∧0≤(a0:Int)∧a0≤((a1.s.size:Nat):Int))
  (.guard ((a1.s.extract 0 a0.toNat).size≤9223372036854775807)
  (.bind (zec a0 0 ((a1.s.extract 0 a0.toNat).data.toList) ((((a1.s.extract 0 a0.toNat).data.toList).length:Nat):Int) 0 a1) fun v1 =>
  (.guard ((0:Int)≤v1.1∧v1.1≤(((v1.2.2.s.size:Nat):Int):Int)∧((v1.2.2.s.size:Nat):Int)≤((v1.2.2.s.size:Nat):Int))
  (.leaf (v1.2.1,(⟨v1.2.2.s.extract v1.1.toNat v1.2.2.s.size,v1.2.2.bad⟩:zd6))))))))
def zd (a0:Int) (a1:zd6):=(zgp a0 a1).run
def zli:SpecT:=zr 1 (LQ.kp 0 0 (LQ.v intP (LP.q zxy))) 2 [.cells 106 2] (u2 zgp) default (LQ.v intP (LP.q zxy)) 1 [.cells 106 2]
theorem zr2:zg Tryz.prog 28 (zli).spec :=
 sK (A:=⟨[([0,1,0,1,1,1],zapw)],[],[],zv49,[]⟩) zhN fM Tryz.func28 (c:=(fb Tryz.f28)) (by kernel_rfl) (Lc:=1) ⟨zat9,trivial⟩ _ _ 3 _ _ _ _ _ _ [] (by rintro ⟨a0,a1⟩;kernel_rfl)
def zv50:List (List Nat):=[[0,2],[2,4],[2,4,5],[2,4,5,6],[2,4,5,6,32],[2,4,5,6],[2,4,5,6,7],[2,4,5,6],[2,4,5,8],[2,4,5,8,56],[2,4,5,8],[2,4,5,8],[2,5,76],[2,3],[2,5,9],[2,5,9,81],[2,3],[2,3]]
noncomputable def zy50:EnvT:=⟨Tryz.prog,zac [(28,zli),(29,zkn)]⟩
theorem zh50:(zy50).Ok:=zf ⟨zr2,zl2,trivial⟩
def zed (x0:Int) (x1:Packet) (x2:zd6) (x3:Packet): Tr ((Int×Packet×zd6×Packet)⊕(Packet×zd6×Packet)) :=
 (.ite ((decide (x0 > 0))&&(!x2.bad))
  (.bind (zd 1 x2) fun v6 =>
  (.guard ((zd 7 v6.2).isSome=true)
  (.guard ((Sl.len (.powers x3.Set)+Sl.len (.powers [(⟨v6.1,((zd 7 v6.2).getD default).1⟩:Power)]))*16≤140737488355328)
  (.leaf (.inl (i64.wrap (x0 - 1),x1,(((zd 7 v6.2).getD default).2),{ x3 with Set:=x3.Set++[(⟨v6.1,((zd 7 v6.2).getD default).1⟩:Power)] }))))))
  (.leaf (.inr (x1,x2,x3))))
def zap (x0:Int) (x1:Packet) (x2:zd6) (x3:Packet):=zd3 (fun s:Int×Packet×zd6×Packet=>(zed s.1 s.2.1 s.2.2.1 s.2.2.2).run) (x0,x1,x2,x3)
def zaud:Ann:=⟨[],[],[],zv50,[]⟩
def zaue:=EndD.mk (LQ.map (LQ.kp 0 0 (LQ.kp 1 0 (LQ.kp 2 0 (LQ.v intP (LQ.v intP (LQ.v intP (LQ.v intP (LQ.v intP (LQ.k (LQ.c (.own 3)) (LQ.k (LQ.c (.own 4)) (LQ.seq (LP.q zxy) (LQ.v intP (LQ.v intP (LQ.v intP (LQ.v intP (LQ.k (LQ.c (.own 5)) (LQ.k (LQ.c (.own 6)) (LQ.v zn (LQ.v zfw (LQ.v zn (Par.q zfw))))))))))))))))))))) (fun x=>(x.1,(⟨x.2.1,x.2.2.1,x.2.2.2.1,(d4 x).1,(d8 x).2.2.1,(d8 x).2.2.2.1⟩:Packet),(d4 x).2.1,(⟨(d4 x).2.2.1,(d4 x).2.2.2.1,(d8 x).1,(d8 x).2.1,(d12 x).1,(d12 x).2⟩:Packet))) (fun y=>(y.1,y.2.1.Kind,y.2.1.Id,y.2.1.V,y.2.1.N,y.2.2.1,y.2.2.2.Kind,y.2.2.2.Id,y.2.2.2.V,y.2.2.2.N,y.2.1.Set,y.2.1.Done,y.2.2.2.Set,y.2.2.2.Done)) (fun _=>rfl)) ⟨[2,4,5,6],[.nilcell 2 4 83 (.powers []),.nilcell 2 5 3 (.ints []),.nilcell 5 4 83 (.powers []),.nilcell 5 5 3 (.ints [])]⟩ [.cells 73 6,.cells 106 2,.cells 73 6,.rows 83,.rows 3,.rows 83,.rows 3]
def zal4:=EndD.mk (LQ.map (LQ.kp 0 0 (LQ.kp 1 0 (LQ.kp 2 0 (LQ.v intP (LQ.v intP (LQ.v intP (LQ.v intP (LQ.k (LQ.c (.own 3)) (LQ.k (LQ.c (.own 4)) (LQ.seq (LP.q zxy) (LQ.v intP (LQ.v intP (LQ.v intP (LQ.v intP (LQ.k (LQ.c (.own 5)) (LQ.k (LQ.c (.own 6)) (LQ.v zn (LQ.v zfw (LQ.v zn (Par.q zfw)))))))))))))))))))) (fun x=>((⟨x.1,x.2.1,x.2.2.1,x.2.2.2.1,(d8 x).2.1,(d8 x).2.2.1⟩:Packet),(d4 x).1,(⟨(d4 x).2.1,(d4 x).2.2.1,(d4 x).2.2.2.1,(d8 x).1,(d8 x).2.2.2.1,(d12 x)⟩:Packet))) (fun y=>(y.1.Kind,y.1.Id,y.1.V,y.1.N,y.2.1,y.2.2.Kind,y.2.2.Id,y.2.2.V,y.2.2.N,y.1.Set,y.1.Done,y.2.2.Set,y.2.2.Done)) (fun _=>rfl)) ⟨[2,4,5],[.nilcell 2 4 83 (.powers []),.nilcell 2 5 3 (.ints []),.nilcell 5 4 83 (.powers []),.nilcell 5 5 3 (.ints [])]⟩ [.cells 73 6,.cells 106 2,.cells 73 6,.rows 83,.rows 3,.rows 83,.rows 3]
def zapx:St→Option LR:=L1 85 11 0 zaue (.exit 0) zal4 (u4 zed)
def zs50a:=sub (fb Tryz.f14) [0,1,0,1,1,1]
theorem zauf:zt (zy50).env 0 zs50a zapx :=
 zhm (A:=zaud) zh50 fM trivial (k:=zch zs50a) (by kernel_rfl) rfl (by rintro ⟨x0,x1,x2,x3⟩;kernel_rfl)
def zee (x0:Int) (x1:Packet) (x2:zd6) (x3:Packet): Tr ((Int×Packet×zd6×Packet)⊕(Packet×zd6×Packet)) :=
 (.ite ((decide (x0 > 0))&&(!x2.bad))
  (.guard ((zd 1 x2).isSome=true)
  (.guard ((Sl.len (.ints x3.Done)+Sl.len (.ints [((zd 1 x2).getD default).1]))*8≤140737488355328)
  (.leaf (.inl (i64.wrap (x0 - 1),x1,(((zd 1 x2).getD default).2),{ x3 with Done:=x3.Done++[((zd 1 x2).getD default).1] })))))
  (.leaf (.inr (x1,x2,x3))))
def zaq (x0:Int) (x1:Packet) (x2:zd6) (x3:Packet):=zd3 (fun s:Int×Packet×zd6×Packet=>(zee s.1 s.2.1 s.2.2.1 s.2.2.2).run) (x0,x1,x2,x3)
def zaug:Ann:=⟨[],[],[],zv50,[]⟩
def zauh:=EndD.mk (LQ.map (LQ.kp 0 0 (LQ.kp 1 0 (LQ.kp 2 0 (LQ.v intP (LQ.v intP (LQ.v intP (LQ.v intP (LQ.v intP (LQ.k (LQ.c (.own 3)) (LQ.k (LQ.c (.own 4)) (LQ.seq (LP.q zxy) (LQ.v intP (LQ.v intP (LQ.v intP (LQ.v intP (LQ.k (LQ.c (.own 5)) (LQ.k (LQ.c (.own 6)) (LQ.v zn (LQ.v zfw (LQ.v zn (Par.q zfw))))))))))))))))))))) (fun x=>(x.1,(⟨x.2.1,x.2.2.1,x.2.2.2.1,(d4 x).1,(d8 x).2.2.1,(d8 x).2.2.2.1⟩:Packet),(d4 x).2.1,(⟨(d4 x).2.2.1,(d4 x).2.2.2.1,(d8 x).1,(d8 x).2.1,(d12 x).1,(d12 x).2⟩:Packet))) (fun y=>(y.1,y.2.1.Kind,y.2.1.Id,y.2.1.V,y.2.1.N,y.2.2.1,y.2.2.2.Kind,y.2.2.2.Id,y.2.2.2.V,y.2.2.2.N,y.2.1.Set,y.2.1.Done,y.2.2.2.Set,y.2.2.2.Done)) (fun _=>rfl)) ⟨[2,4,5,8],[.nilcell 2 4 83 (.powers []),.nilcell 2 5 3 (.ints []),.nilcell 5 4 83 (.powers []),.nilcell 5 5 3 (.ints [])]⟩ [.cells 73 6,.cells 106 2,.cells 73 6,.rows 83,.rows 3,.rows 83,.rows 3]
def zal5:=EndD.mk (LQ.map (LQ.kp 0 0 (LQ.kp 1 0 (LQ.kp 2 0 (LQ.v intP (LQ.v intP (LQ.v intP (LQ.v intP (LQ.k (LQ.c (.own 3)) (LQ.k (LQ.c (.own 4)) (LQ.seq (LP.q zxy) (LQ.v intP (LQ.v intP (LQ.v intP (LQ.v intP (LQ.k (LQ.c (.own 5)) (LQ.k (LQ.c (.own 6)) (LQ.v zn (LQ.v zfw (LQ.v zn (Par.q zfw)))))))))))))))))))) (fun x=>((⟨x.1,x.2.1,x.2.2.1,x.2.2.2.1,(d8 x).2.1,(d8 x).2.2.1⟩:Packet),(d4 x).1,(⟨(d4 x).2.1,(d4 x).2.2.1,(d4 x).2.2.2.1,(d8 x).1,(d8 x).2.2.2.1,(d12 x)⟩:Packet))) (fun y=>(y.1.Kind,y.1.Id,y.1.V,y.1.N,y.2.1,y.2.2.Kind,y.2.2.Id,y.2.2.V,y.2.2.N,y.1.Set,y.1.Done,y.2.2.Set,y.2.2.Done)) (fun _=>rfl)) ⟨[2,4,5],[.nilcell 2 4 83 (.powers []),.nilcell 2 5 3 (.ints []),.nilcell 5 4 83 (.powers []),.nilcell 5 5 3 (.ints [])]⟩ [.cells 73 6,.cells 106 2,.cells 73 6,.rows 83,.rows 3,.rows 83,.rows 3]
def zapy:St→Option LR:=L1 85 11 0 zauh (.exit 2) zal5 (u4 zee)
def zs50b:=sub (fb Tryz.f14) [0,1,0,1,1,1,1]
theorem zaui:zt (zy50).env 0 zs50b zapy :=
 zhm (A:=zaug) zh50 fM trivial (k:=zch zs50b) (by kernel_rfl) rfl (by rintro ⟨x0,x1,x2,x3⟩;kernel_rfl)
def zoq (a0:ByteArray): Tr (Packet×Int) :=
 (.bind (zd 1 (⟨a0,false⟩:zd6)) fun v1 =>
 (.bind (zd 6 v1.2) fun v2 =>
 (.bind (zd 1 v2.2) fun v3 =>
 (.bind (zd 7 v3.2) fun v4 =>
 (.bind (zd 1 v4.2) fun v5 =>
 (.bind (zap v5.1 (⟨0,0,0,0,[],[]⟩:Packet) v5.2 (⟨v1.1,v2.1,v3.1,v4.1,[],[]⟩:Packet)) fun v7 =>
 (.bind (zd 1 v7.2.1) fun v8 =>
 (.bind (zaq v8.1 v7.1 v8.2 v7.2.2) fun v9 =>
 (.ite (v9.2.1.bad||(!(v9.2.1.s.toList==(⟨#[]⟩:ByteArray).toList)))
  (.leaf ((⟨0,0,0,0,[],[]⟩:Packet),1))
  (.bind (ze2 v9.2.2) fun v11 =>
  (.ite (v11 != 0)
   (.leaf ((⟨0,0,0,0,[],[]⟩:Packet),v11))
   (.leaf (v9.2.2,0)))))))))))))
def zef (a0:ByteArray):=(zoq a0).run
def zor:SpecT:=zr 0 (Par.q strP) 1 [] zoq default (LQ.v (Par.ofLP zje) (Par.q intP)) 2 []
theorem zr3:zg Tryz.prog 14 (zor).spec :=
 sK (A:=⟨[([0,1,0,1,1,1],zapx),([0,1,0,1,1,1,1],zapy)],[],[],zv50,[]⟩) zh50 fM Tryz.func14 (c:=(fb Tryz.f14)) (by kernel_rfl) (Lc:=0) ⟨zauf,zaui,trivial⟩ _ _ 11 _ _ _ _ _ _ [.pubB 2] (by rintro a0;kernel_rfl)
end
