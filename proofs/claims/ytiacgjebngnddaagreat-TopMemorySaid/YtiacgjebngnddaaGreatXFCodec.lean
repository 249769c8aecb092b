/-
  The functions, each by its tree.
-/
import Derived.Test.YtiacgjebngnddaaGreatXAbC
import Derived.Test.YtiacgjebngnddaaGreatXFLine
import Derived.Test.YtiacgjebngnddaaGreatXFRatio
import Derived.Test.YtiacgjebngnddaaGreatXFacts
namespace Go.Proofs.YtiacgjebngnddaaGreat.Ab
open Go Go.RowKit
open Go.IntKind (i64 u64)
set_option maxRecDepth 100000
set_option linter.unusedVariables false
set_option linter.unusedSimpArgs false
noncomputable section
def zv45:List (List Nat):=[[0,1],[0,1,7,8,9],[0,1,7,8,9,10],[0,1,5,6,7,8,9],[0,1,7,8,9,47],[4],[0,1,7,8,9],[4]]
def zhr (x0:(List Power)) (x1:Int) (x2:(List Power)) (x3 x4:Int): Tr (((List Power)×Int×(List Power)×Int×Int)⊕((Bool)⊕(Unit))) :=
 (.ite (decide (x4 < x3))
  (.guard ((0:Int)≤x4∧x4 < ((Sl.len (.powers x2):Nat):Int))
  (.guard (((decide (x4 > 0))=true→(((decide (((x2.getD x4.toNat default).V) < 0))||(decide (((x2.getD x4.toNat default).V)≥6)))=false→((0:Int)≤(i64.wrap (x4 - 1))∧(i64.wrap (x4 - 1)) < ((Sl.len (.powers x0):Nat):Int))∧True)))
  (.ite (((((decide (((x2.getD x4.toNat default).V) < 0))||(decide (((x2.getD x4.toNat default).V)≥6)))||((decide (x4 > 0))&&(decide (((x0.getD ((i64.wrap (x4 - 1)).toNat) default).V)≥((x2.getD x4.toNat default).V)))))||(decide (((x2.getD x4.toNat default).N) < x1)))||(decide (((x2.getD x4.toNat default).N) > 1125899906842624)))
   (.leaf (.inr (.inl false)))
   (.leaf (.inl (x0,x1,x2,x3,i64.wrap (x4+1)))))))
  (.leaf (.inr (.inr ()))))
def zpr (x0:(List Power)) (x1:Int) (x2:(List Power)) (x3 x4:Int):=zcv (fun s:(List Power)×Int×(List Power)×Int×Int=>(zhr s.1 s.2.1 s.2.2.1 s.2.2.2.1 s.2.2.2.2).run) (x0,x1,x2,x3,x4)
def zay2:Ann:=⟨[],[],[],zv45,[]⟩
def zay3:=EndD.mk (LQ.v zd (LQ.v intP (LQ.v zd (LQ.v intP (Par.q intP))))) ⟨[0,1,7,8,9],[.pub 0,.nilsl 0 (.powers []),.pub 7,.nilsl 7 (.powers [])]⟩ []
def zapf:=EndD.mk (Par.q boolP) ⟨[4],[]⟩ []
def zapg:EndD (Unit):=⟨LQ.nil,⟨[],[]⟩,[]⟩
def zatd:St→Option LR:=L2 49 3 0 zay3 .ret zapf (.exit 0) zapg (u5 zhr)
def zs45a:=sub (fb Tryz.f39) [0,1,0,1]
theorem zay4:zl (zyN).env 0 zs45a zatd :=
 zmq (A:=zay2) zhN fM trivial (k:=za5 zs45a) (by kernel_rfl) rfl rfl (by rintro ⟨x0,x1,x2,x3,x4⟩;kernel_rfl)
def zqk (a0:(List Power)) (a1:Int): Tr (Bool) :=
 (.two (zpr a0 a1 a0 ((a0.length:Nat):Int) 0) (fun v1 =>
  (.leaf v1)) (fun v2 =>
  (.leaf true)))
def zof (a0:(List Power)) (a1:Int):=(zqk a0 a1).run
def zvv:SpecT:=zu 0 (LQ.v zd (Par.q intP)) 2 [] (u2 zqk) default (Par.q boolP) 1 []
theorem z2h:zg Tryz.prog 39 (zvv).spec :=
 sK (A:=⟨[([0,1,0,1],zatd)],[],[],zv45,[]⟩) zhN fM Tryz.func39 (c:=(fb Tryz.f39)) (by kernel_rfl) (Lc:=0) ⟨zay4,trivial⟩ _ _ 3 _ _ _ _ _ _ [] (by rintro ⟨a0,a1⟩;kernel_rfl)
def zv46:List (List Nat):=[[1],[1,5],[2],[1,14],[2],[1,23],[2],[1,47],[2],[1,76],[2],[1,82,83,84],[1,82,83,84,85],[1,3,4,82,83,84],[1,82,83,84,108],[2],[1,82,83,84],[2]]
noncomputable def zy46:EnvT:=⟨Tryz.prog,zad [(39,zvv)],false⟩
theorem zh46:(zy46).Ok:=zf ⟨z2h,trivial⟩
def zj5 (x0:(List Int)) (x1 x2:Int) (x3:Packet): Tr (((List Int)×Int×Int×Packet)⊕((Int)⊕(Unit))) :=
 (.ite (decide (x2 < x1))
  (.guard ((0:Int)≤x2∧x2 < ((Sl.len (.ints x0):Nat):Int))
  (.guard (((decide (x2 > 0))=true→(((decide ((x0.getD x2.toNat 0) < 0))||(decide ((x0.getD x2.toNat 0)≥6)))=false→((0:Int)≤(i64.wrap (x2 - 1))∧(i64.wrap (x2 - 1)) < ((Sl.len (.ints x3.Done):Nat):Int))∧True)))
  (.ite (((decide ((x0.getD x2.toNat 0) < 0))||(decide ((x0.getD x2.toNat 0)≥6)))||((decide (x2 > 0))&&(decide ((x3.Done.getD ((i64.wrap (x2 - 1)).toNat) 0)≥(x0.getD x2.toNat 0)))))
   (.leaf (.inr (.inl 2)))
   (.leaf (.inl (x0,x1,i64.wrap (x2+1),x3))))))
  (.leaf (.inr (.inr ()))))
def zs2 (x0:(List Int)) (x1 x2:Int) (x3:Packet):=zcv (fun s:(List Int)×Int×Int×Packet=>(zj5 s.1 s.2.1 s.2.2.1 s.2.2.2).run) (x0,x1,x2,x3)
def zay5:Ann:=⟨[],[],[],zv46,[]⟩
def zay6:=EndD.mk (LQ.kp 0 0 (LQ.v zt (LQ.v intP (LQ.v intP (LP.q zjw))))) ⟨[1,82,83,84],[.pub 82,.nilsl 82 (.ints [])]⟩ [.cells 73 6]
def zaph:=EndD.mk (Par.q intP) ⟨[2],[]⟩ []
def zapi:EndD (Unit):=⟨LQ.nil,⟨[],[]⟩,[]⟩
def zate:St→Option LR:=L2 110 3 0 zay6 .ret zaph (.exit 1) zapi (u4 zj5)
def zs46a:=sub (fb Tryz.f29) [0,1,0,1,1]
theorem zay7:zl (zy46).env 0 zs46a zate :=
 zmq (A:=zay5) zh46 fM trivial (k:=za5 zs46a) (by kernel_rfl) rfl rfl (by rintro ⟨x0,x1,x2,x3⟩;kernel_rfl)
def ztx (a0:Packet): Tr (Int) :=
 (.ite ((decide (a0.Kind < 1))||(decide (a0.Kind > 4)))
  (.leaf 3)
  (.ite ((decide (a0.Id < 1))||(decide (a0.Id > 1099511627776)))
   (.leaf 2)
   (.ite ((decide (a0.Kind≥3))&&((((decide (a0.V < 0))||(decide (a0.V≥6)))||(decide (a0.N < 1)))||(decide (a0.N > 1125899906842624))))
    (.leaf 2)
    (.ite (((decide (a0.Kind≤2))&&((a0.V != 0)||(a0.N != 0)))||((a0.Kind != 1)&&(decide ((i64.wrap (((a0.Set.length:Nat):Int)+((a0.Done.length:Nat):Int))) > 0))))
     (.leaf 1)
     (.bind (zof a0.Set 0) fun v1 =>
     (.ite (!v1)
      (.leaf 2)
      (.two (zs2 a0.Done ((a0.Done.length:Nat):Int) 0 a0) (fun v2 =>
       (.leaf v2)) (fun v3 =>
       (.leaf 0)))))))))
def zfu (a0:Packet):=(ztx a0).run
def zmd:SpecT:=zu 0 (Par.q (Par.ofLP zjw)) 1 [] ztx default (Par.q intP) 1 []
theorem znt:zg Tryz.prog 29 (zmd).spec :=
 sK (A:=⟨[([0,1,0,1,1],zate)],[],[],zv46,[]⟩) zh46 fM Tryz.func29 (c:=(fb Tryz.f29)) (by kernel_rfl) (Lc:=0) ⟨zay7,trivial⟩ _ _ 3 _ _ _ _ _ _ [] (by rintro a0;kernel_rfl)
def zv47:List (List Nat):=[[0,1,2],[0,1,7],[0,1,7,11],[0,1,7],[0,1,7],[6]]
def zl1 (x0 x1:Int) (x2:(List UInt8)): Tr ((Int×Int×(List UInt8))⊕((List UInt8))) :=
 (.ite (decide (x1≥0))
  (.guard ((0:Int)≤(u64.wrap (i64.wrap (8*x1))))
  (.guard (0≤(IntKind.u8.wrap (Int.fdiv x0 (2 ^ (min (u64.wrap (i64.wrap (8*x1))).toNat 64))))∧(IntKind.u8.wrap (Int.fdiv x0 (2 ^ (min (u64.wrap (i64.wrap (8*x1))).toNat 64)))) < 256)
  (.guard ((Sl.len (.bytes x2)+Sl.len (.bytes [UInt8.ofNat (IntKind.u8.wrap (Int.fdiv x0 (2 ^ (min (u64.wrap (i64.wrap (8*x1))).toNat 64)))).toNat]))*1≤140737488355328)
  (.leaf (.inl (x0,i64.wrap (x1 - 1),x2++[UInt8.ofNat (IntKind.u8.wrap (Int.fdiv x0 (2 ^ (min (u64.wrap (i64.wrap (8*x1))).toNat 64)))).toNat]))))))
  (.leaf (.inr x2)))
def zog (x0 x1:Int) (x2:(List UInt8)):=zcv (fun s:Int×Int×(List UInt8)=>(zl1 s.1 s.2.1 s.2.2).run) (x0,x1,x2)
def zay8:Ann:=⟨[],[],[],zv47,[]⟩
def zay9:=EndD.mk (LQ.k (LQ.c (.own 0)) (LQ.v intP (LQ.v intP (Par.q zxw)))) ⟨[0,1,7],[.nilown 0 5 (.bytes [])]⟩ [.rows 5]
def zapj:=EndD.mk (LQ.k (LQ.c (.own 0)) (Par.q zxw)) ⟨[0],[.nilown 0 5 (.bytes [])]⟩ [.rows 5]
def zatf:St→Option LR:=L1 24 5 0 zay9 (.exit 0) zapj (u3 zl1)
def zs47a:=sub (fb Tryz.f136) [0,1,0,1]
theorem zaza:zl (zyN).env 0 zs47a zatf :=
 zd1 (A:=zay8) zhN fM trivial (k:=za5 zs47a) (by kernel_rfl) rfl (by rintro ⟨x0,x1,x2⟩;kernel_rfl)
def zw4 (a0 a1:Int) (a2:(List UInt8)): Tr ((List UInt8)) :=
 (.bind (zog a0 (i64.wrap (a1 - 1)) a2) fun v1 =>
 (.leaf v1))
def zo (a0 a1:Int) (a2:(List UInt8)):=(zw4 a0 a1 a2).run
def z2i:SpecT:=zu 0 (LQ.k (LQ.c (.own 0)) (LQ.v intP (LQ.v intP (Par.q zxw)))) 3 [.rows 5] (u3 zw4) default (LQ.k (LQ.c (.own 0)) (Par.q zxw)) 1 [.rows 5]
theorem z84:zg Tryz.prog 136 (z2i).spec :=
 sK (A:=⟨[([0,1,0,1],zatf)],[],[],zv47,[]⟩) zhN fM Tryz.func136 (c:=(fb Tryz.f136)) (by kernel_rfl) (Lc:=0) ⟨zaza,trivial⟩ _ _ 5 _ _ _ _ _ _ [.nilown 6 5 (.bytes [])] (by rintro ⟨a0,a1,a2⟩;kernel_rfl)
def zv48:List (List Nat):=[[1],[1,4],[1,4,13],[2,3],[1,5],[1,5],[1,5,34,35,36],[1,5,34,35,36,37],[1,5,7,34,35,36],[1,5,34,35,36],[1,5,34,35,36],[1,5],[5,54,55,56],[5,54,55,56,57],[5,9,54,55,56],[5,54,55,56],[5,54,55,56],[2,3]]
noncomputable def zy48:EnvT:=⟨Tryz.prog,zad [(29,zmd),(136,z2i)],false⟩
theorem zh48:(zy48).Ok:=zf ⟨znt,z84,trivial⟩
def zhs (x0:(List Power)) (x1 x2:Int) (x3:Packet) (x4:(List UInt8)): Tr (((List Power)×Int×Int×Packet×(List UInt8))⊕(Packet×(List UInt8))) :=
 (.ite (decide (x2 < x1))
  (.guard ((0:Int)≤x2∧x2 < ((Sl.len (.powers x0):Nat):Int))
  (.guard ((zo ((x0.getD x2.toNat default).V) 1 x4).isSome=true)
  (.guard ((zo ((x0.getD x2.toNat default).N) 7 ((zo ((x0.getD x2.toNat default).V) 1 x4).getD default)).isSome=true)
  (.leaf (.inl (x0,x1,i64.wrap (x2+1),x3,((zo ((x0.getD x2.toNat default).N) 7 ((zo ((x0.getD x2.toNat default).V) 1 x4).getD default)).getD default)))))))
  (.leaf (.inr (x3,x4))))
def zj6 (x0:(List Power)) (x1 x2:Int) (x3:Packet) (x4:(List UInt8)):=zcv (fun s:(List Power)×Int×Int×Packet×(List UInt8)=>(zhs s.1 s.2.1 s.2.2.1 s.2.2.2.1 s.2.2.2.2).run) (x0,x1,x2,x3,x4)
def zaze:Ann:=⟨[],[],[],zv48,[]⟩
def zazf:=EndD.mk (LQ.kp 0 0 (LQ.k (LQ.c (.own 1)) (LQ.v zd (LQ.v intP (LQ.v intP (LQ.seq (LP.q zjw) (Par.q zxw))))))) ⟨[1,5,34,35,36],[.nilown 5 5 (.bytes []),.pub 34,.nilsl 34 (.powers [])]⟩ [.cells 73 6,.rows 5]
def zapk:=EndD.mk (LQ.kp 0 0 (LQ.k (LQ.c (.own 1)) (LQ.seq (LP.q zjw) (Par.q zxw)))) ⟨[1,5],[.nilown 5 5 (.bytes [])]⟩ [.cells 73 6,.rows 5]
def zatg:St→Option LR:=L1 66 8 0 zazf (.exit 0) zapk (u5 zhs)
def zs48a:=sub (fb Tryz.f113) [0,1,0,1,1,1,1]
theorem zazg:zl (zy48).env 0 zs48a zatg :=
 zd1 (A:=zaze) zh48 fM trivial (k:=za5 zs48a) (by kernel_rfl) rfl (by rintro ⟨x0,x1,x2,x3,x4⟩;kernel_rfl)
def zht (x0:(List Int)) (x1 x2:Int) (x3:(List UInt8)): Tr (((List Int)×Int×Int×(List UInt8))⊕((List UInt8))) :=
 (.ite (decide (x2 < x1))
  (.guard ((0:Int)≤x2∧x2 < ((Sl.len (.ints x0):Nat):Int))
  (.bind (zo (x0.getD x2.toNat 0) 1 x3) fun v4 =>
  (.leaf (.inl (x0,x1,i64.wrap (x2+1),v4)))))
  (.leaf (.inr x3)))
def zj7 (x0:(List Int)) (x1 x2:Int) (x3:(List UInt8)):=zcv (fun s:(List Int)×Int×Int×(List UInt8)=>(zht s.1 s.2.1 s.2.2.1 s.2.2.2).run) (x0,x1,x2,x3)
def zazh:Ann:=⟨[],[],[],zv48,[]⟩
def zazi:=EndD.mk (LQ.k (LQ.c (.own 0)) (LQ.v zt (LQ.v intP (LQ.v intP (Par.q zxw))))) ⟨[5,54,55,56],[.nilown 5 5 (.bytes []),.pub 54,.nilsl 54 (.ints [])]⟩ [.rows 5]
def zapl:=EndD.mk (LQ.k (LQ.c (.own 0)) (Par.q zxw)) ⟨[5],[.nilown 5 5 (.bytes [])]⟩ [.rows 5]
def zath:St→Option LR:=L1 66 8 0 zazi (.exit 2) zapl (u4 zht)
def zs48b:=sub (fb Tryz.f113) [0,1,0,1,1,1,1,1,1]
theorem zazj:zl (zy48).env 0 zs48b zath :=
 zd1 (A:=zazh) zh48 fM trivial (k:=za5 zs48b) (by kernel_rfl) rfl (by rintro ⟨x0,x1,x2,x3⟩;kernel_rfl)
def zql (a0:Packet): Tr (ByteArray×Int) :=
 (.bind (zfu a0) fun v1 =>
 (.ite (v1 != 0)
  (.leaf ((⟨#[]⟩:ByteArray),v1))
  (.guard (0≤(IntKind.u8.wrap a0.Kind)∧(IntKind.u8.wrap a0.Kind) < 256)
  (.guard ((zo a0.Id 6 [UInt8.ofNat (IntKind.u8.wrap a0.Kind).toNat]).isSome=true)
  (.guard ((zo a0.V 1 ((zo a0.Id 6 [UInt8.ofNat (IntKind.u8.wrap a0.Kind).toNat]).getD default)).isSome=true)
  (.guard ((zo a0.N 7 ((zo a0.V 1 ((zo a0.Id 6 [UInt8.ofNat (IntKind.u8.wrap a0.Kind).toNat]).getD default)).getD default)).isSome=true)
  (.guard ((zo ((a0.Set.length:Nat):Int) 1 ((zo a0.N 7 ((zo a0.V 1 ((zo a0.Id 6 [UInt8.ofNat (IntKind.u8.wrap a0.Kind).toNat]).getD default)).getD default)).getD default)).isSome=true)
  (.bind (zj6 a0.Set ((a0.Set.length:Nat):Int) 0 a0 ((zo ((a0.Set.length:Nat):Int) 1 ((zo a0.N 7 ((zo a0.V 1 ((zo a0.Id 6 [UInt8.ofNat (IntKind.u8.wrap a0.Kind).toNat]).getD default)).getD default)).getD default)).getD default)) fun v2 =>
  (.bind (zo ((v2.1.Done.length:Nat):Int) 1 v2.2) fun v3 =>
  (.bind (zj7 v2.1.Done ((v2.1.Done.length:Nat):Int) 0 v3) fun v5 =>
  (.leaf ((⟨v5.toArray⟩:ByteArray),0))))))))))))
def zbg (a0:Packet):=(zql a0).run
def zl2:SpecT:=zu 0 (Par.q (Par.ofLP zjw)) 1 [] zql default (LQ.v strP (Par.q intP)) 2 []
theorem zoh:zg Tryz.prog 113 (zl2).spec :=
 sK (A:=⟨[([0,1,0,1,1,1,1],zatg),([0,1,0,1,1,1,1,1,1],zath)],[],[],zv48,[]⟩) zh48 fM Tryz.func113 (c:=(fb Tryz.f113)) (by kernel_rfl) (Lc:=0) ⟨zazg,zazj,trivial⟩ _ _ 8 _ _ _ _ _ _ [] (by rintro a0;kernel_rfl)
def zv49:List (List Nat):=[[0,1],[0,1,14],[],[4],[0,1,5],[0,1,5,27,28,29],[0,1,5,27,28,29,30],[0,1,5,7,27,28,29],[0,1,5,27,28,29],[0,1,5,27,28,29],[5],[4]]
def zbt (x0 x1:Int) (x2:(List UInt8)) (x3 x4:Int) (x5:zes): Tr ((Int×Int×(List UInt8)×Int×Int×zes)⊕(Int×Int×zes)) :=
 (.ite (decide (x4 < x3))
  (.guard ((0:Int)≤x4∧x4 < ((Sl.len (.bytes x2):Nat):Int))
  (.guard ((0:Int)≤8)
  (.leaf (.inl (x0,i64.wrap (((BitVec.ofInt 64 (i64.wrap (x1*2 ^ 8)) ||| BitVec.ofInt 64 (i64.wrap (((x2.getD x4.toNat 0).toNat:Nat):Int))).toNat:Nat):Int),x2,x3,i64.wrap (x4+1),x5)))))
  (.leaf (.inr (x0,x1,x5))))
def zex (x0 x1:Int) (x2:(List UInt8)) (x3 x4:Int) (x5:zes):=zcv (fun s:Int×Int×(List UInt8)×Int×Int×zes=>(zbt s.1 s.2.1 s.2.2.1 s.2.2.2.1 s.2.2.2.2.1 s.2.2.2.2.2).run) (x0,x1,x2,x3,x4,x5)
def zazk:Ann:=⟨[],[],[],zv49,[]⟩
def zazl:=EndD.mk (LQ.kp 0 0 (LQ.v intP (LQ.v intP (LQ.v zxw (LQ.v intP (LQ.v intP (LP.q z0d))))))) ⟨[0,1,5,27,28,29],[.pub 27,.nilsl 27 (.bytes [])]⟩ [.cells 106 2]
def zapm:=EndD.mk (LQ.kp 0 0 (LQ.v intP (LQ.v intP (LP.q z0d)))) ⟨[0,1,5],[]⟩ [.cells 106 2]
def zati:St→Option LR:=L1 49 3 1 zazl (.exit 0) zapm (u6 zbt)
def zs49a:=sub (fb Tryz.f28) [0,1,0,1,1,1]
theorem zazm:zl (zyN).env 1 zs49a zati :=
 zd1 (A:=zazk) zhN fM trivial (k:=za5 zs49a) (by kernel_rfl) rfl (by rintro ⟨x0,x1,x2,x3,x4,x5⟩;kernel_rfl)
def zh0 (a0:Int) (a1:zes): Tr (Int×zes) :=
 (.ite (decide (a0 > ((a1.s.size:Nat):Int)))
  (.leaf (0,(⟨(⟨#[]⟩:ByteArray),true⟩:zes)))
  (.guard ((0:Int)≤0∧0≤(a0:Int)∧a0≤((a1.s.size:Nat):Int))
  (.guard ((a1.s.extract 0 a0.toNat).size≤9223372036854775807)
  (.bind (zex a0 0 ((a1.s.extract 0 a0.toNat).data.toList) ((((a1.s.extract 0 a0.toNat).data.toList).length:Nat):Int) 0 a1) fun v1 =>
  (.guard ((0:Int)≤v1.1∧v1.1≤(((v1.2.2.s.size:Nat):Int):Int)∧((v1.2.2.s.size:Nat):Int)≤((v1.2.2.s.size:Nat):Int))
  (.leaf (v1.2.1,(⟨v1.2.2.s.extract v1.1.toNat v1.2.2.s.size,v1.2.2.bad⟩:zes))))))))
def ze (a0:Int) (a1:zes):=(zh0 a0 a1).run
def zm9:SpecT:=zu 1 (LQ.kp 0 0 (LQ.v intP (LP.q z0d))) 2 [.cells 106 2] (u2 zh0) default (LQ.v intP (LP.q z0d)) 1 [.cells 106 2]
theorem zty:zg Tryz.prog 28 (zm9).spec :=
 sK (A:=⟨[([0,1,0,1,1,1],zati)],[],[],zv49,[]⟩) zhN fM Tryz.func28 (c:=(fb Tryz.f28)) (by kernel_rfl) (Lc:=1) ⟨zazm,trivial⟩ _ _ 3 _ _ _ _ _ _ [] (by rintro ⟨a0,a1⟩;kernel_rfl)
def zv50:List (List Nat):=[[0,2],[2,4],[2,4,5],[2,4,5,6],[2,4,5,6,32],[2,4,5,6],[2,4,5,6,7],[2,4,5,6],[2,4,5,8],[2,4,5,8,56],[2,4,5,8],[2,4,5,8],[2,5,76],[2,3],[2,5,9],[2,5,9,81],[2,3],[2,3]]
noncomputable def zy50:EnvT:=⟨Tryz.prog,zad [(28,zm9),(29,zmd)],false⟩
theorem zh50:(zy50).Ok:=zf ⟨zty,znt,trivial⟩
def zey (x0:Int) (x1:Packet) (x2:zes) (x3:Packet): Tr ((Int×Packet×zes×Packet)⊕(Packet×zes×Packet)) :=
 (.ite ((decide (x0 > 0))&&(!x2.bad))
  (.bind (ze 1 x2) fun v6 =>
  (.guard ((ze 7 v6.2).isSome=true)
  (.guard ((Sl.len (.powers x3.Set)+Sl.len (.powers [(⟨v6.1,((ze 7 v6.2).getD default).1⟩:Power)]))*16≤140737488355328)
  (.leaf (.inl (i64.wrap (x0 - 1),x1,(((ze 7 v6.2).getD default).2),{ x3 with Set:=x3.Set++[(⟨v6.1,((ze 7 v6.2).getD default).1⟩:Power)] }))))))
  (.leaf (.inr (x1,x2,x3))))
def zaw (x0:Int) (x1:Packet) (x2:zes) (x3:Packet):=zcv (fun s:Int×Packet×zes×Packet=>(zey s.1 s.2.1 s.2.2.1 s.2.2.2).run) (x0,x1,x2,x3)
def zazq:Ann:=⟨[],[],[],zv50,[]⟩
def zazr:=EndD.mk (LQ.map (LQ.kp 0 0 (LQ.kp 1 0 (LQ.kp 2 0 (LQ.v intP (LQ.v intP (LQ.v intP (LQ.v intP (LQ.v intP (LQ.k (LQ.c (.own 3)) (LQ.k (LQ.c (.own 4)) (LQ.seq (LP.q z0d) (LQ.v intP (LQ.v intP (LQ.v intP (LQ.v intP (LQ.k (LQ.c (.own 5)) (LQ.k (LQ.c (.own 6)) (LQ.v zd (LQ.v zt (LQ.v zd (Par.q zt))))))))))))))))))))) (fun x=>(x.1,(⟨x.2.1,x.2.2.1,x.2.2.2.1,(d4 x).1,(d8 x).2.2.1,(d8 x).2.2.2.1⟩:Packet),(d4 x).2.1,(⟨(d4 x).2.2.1,(d4 x).2.2.2.1,(d8 x).1,(d8 x).2.1,(d12 x).1,(d12 x).2⟩:Packet))) (fun y=>(y.1,y.2.1.Kind,y.2.1.Id,y.2.1.V,y.2.1.N,y.2.2.1,y.2.2.2.Kind,y.2.2.2.Id,y.2.2.2.V,y.2.2.2.N,y.2.1.Set,y.2.1.Done,y.2.2.2.Set,y.2.2.2.Done)) (fun _=>rfl)) ⟨[2,4,5,6],[.nilcell 2 4 83 (.powers []),.nilcell 2 5 3 (.ints []),.nilcell 5 4 83 (.powers []),.nilcell 5 5 3 (.ints [])]⟩ [.cells 73 6,.cells 106 2,.cells 73 6,.rows 83,.rows 3,.rows 83,.rows 3]
def zapn:=EndD.mk (LQ.map (LQ.kp 0 0 (LQ.kp 1 0 (LQ.kp 2 0 (LQ.v intP (LQ.v intP (LQ.v intP (LQ.v intP (LQ.k (LQ.c (.own 3)) (LQ.k (LQ.c (.own 4)) (LQ.seq (LP.q z0d) (LQ.v intP (LQ.v intP (LQ.v intP (LQ.v intP (LQ.k (LQ.c (.own 5)) (LQ.k (LQ.c (.own 6)) (LQ.v zd (LQ.v zt (LQ.v zd (Par.q zt)))))))))))))))))))) (fun x=>((⟨x.1,x.2.1,x.2.2.1,x.2.2.2.1,(d8 x).2.1,(d8 x).2.2.1⟩:Packet),(d4 x).1,(⟨(d4 x).2.1,(d4 x).2.2.1,(d4 x).2.2.2.1,(d8 x).1,(d8 x).2.2.2.1,(d12 x)⟩:Packet))) (fun y=>(y.1.Kind,y.1.Id,y.1.V,y.1.N,y.2.1,y.2.2.Kind,y.2.2.Id,y.2.2.V,y.2.2.N,y.1.Set,y.1.Done,y.2.2.Set,y.2.2.Done)) (fun _=>rfl)) ⟨[2,4,5],[.nilcell 2 4 83 (.powers []),.nilcell 2 5 3 (.ints []),.nilcell 5 4 83 (.powers []),.nilcell 5 5 3 (.ints [])]⟩ [.cells 73 6,.cells 106 2,.cells 73 6,.rows 83,.rows 3,.rows 83,.rows 3]
def zatj:St→Option LR:=L1 85 11 0 zazr (.exit 0) zapn (u4 zey)
def zs50a:=sub (fb Tryz.f14) [0,1,0,1,1,1]
theorem zazs:zl (zy50).env 0 zs50a zatj :=
 zd1 (A:=zazq) zh50 fM trivial (k:=za5 zs50a) (by kernel_rfl) rfl (by rintro ⟨x0,x1,x2,x3⟩;kernel_rfl)
def zez (x0:Int) (x1:Packet) (x2:zes) (x3:Packet): Tr ((Int×Packet×zes×Packet)⊕(Packet×zes×Packet)) :=
 (.ite ((decide (x0 > 0))&&(!x2.bad))
  (.guard ((ze 1 x2).isSome=true)
  (.guard ((Sl.len (.ints x3.Done)+Sl.len (.ints [((ze 1 x2).getD default).1]))*8≤140737488355328)
  (.leaf (.inl (i64.wrap (x0 - 1),x1,(((ze 1 x2).getD default).2),{ x3 with Done:=x3.Done++[((ze 1 x2).getD default).1] })))))
  (.leaf (.inr (x1,x2,x3))))
def zax (x0:Int) (x1:Packet) (x2:zes) (x3:Packet):=zcv (fun s:Int×Packet×zes×Packet=>(zez s.1 s.2.1 s.2.2.1 s.2.2.2).run) (x0,x1,x2,x3)
def zazt:Ann:=⟨[],[],[],zv50,[]⟩
def zazu:=EndD.mk (LQ.map (LQ.kp 0 0 (LQ.kp 1 0 (LQ.kp 2 0 (LQ.v intP (LQ.v intP (LQ.v intP (LQ.v intP (LQ.v intP (LQ.k (LQ.c (.own 3)) (LQ.k (LQ.c (.own 4)) (LQ.seq (LP.q z0d) (LQ.v intP (LQ.v intP (LQ.v intP (LQ.v intP (LQ.k (LQ.c (.own 5)) (LQ.k (LQ.c (.own 6)) (LQ.v zd (LQ.v zt (LQ.v zd (Par.q zt))))))))))))))))))))) (fun x=>(x.1,(⟨x.2.1,x.2.2.1,x.2.2.2.1,(d4 x).1,(d8 x).2.2.1,(d8 x).2.2.2.1⟩:Packet),(d4 x).2.1,(⟨(d4 x).2.2.1,(d4 x).2.2.2.1,(d8 x).1,(d8 x).2.1,(d12 x).1,(d12 x).2⟩:Packet))) (fun y=>(y.1,y.2.1.Kind,y.2.1.Id,y.2.1.V,y.2.1.N,y.2.2.1,y.2.2.2.Kind,y.2.2.2.Id,y.2.2.2.V,y.2.2.2.N,y.2.1.Set,y.2.1.Done,y.2.2.2.Set,y.2.2.2.Done)) (fun _=>rfl)) ⟨[2,4,5,8],[.nilcell 2 4 83 (.powers []),.nilcell 2 5 3 (.ints []),.nilcell 5 4 83 (.powers []),.nilcell 5 5 3 (.ints [])]⟩ [.cells 73 6,.cells 106 2,.cells 73 6,.rows 83,.rows 3,.rows 83,.rows 3]
def zapo:=EndD.mk (LQ.map (LQ.kp 0 0 (LQ.kp 1 0 (LQ.kp 2 0 (LQ.v intP (LQ.v intP (LQ.v intP (LQ.v intP (LQ.k (LQ.c (.own 3)) (LQ.k (LQ.c (.own 4)) (LQ.seq (LP.q z0d) (LQ.v intP (LQ.v intP (LQ.v intP (LQ.v intP (LQ.k (LQ.c (.own 5)) (LQ.k (LQ.c (.own 6)) (LQ.v zd (LQ.v zt (LQ.v zd (Par.q zt)))))))))))))))))))) (fun x=>((⟨x.1,x.2.1,x.2.2.1,x.2.2.2.1,(d8 x).2.1,(d8 x).2.2.1⟩:Packet),(d4 x).1,(⟨(d4 x).2.1,(d4 x).2.2.1,(d4 x).2.2.2.1,(d8 x).1,(d8 x).2.2.2.1,(d12 x)⟩:Packet))) (fun y=>(y.1.Kind,y.1.Id,y.1.V,y.1.N,y.2.1,y.2.2.Kind,y.2.2.Id,y.2.2.V,y.2.2.N,y.1.Set,y.1.Done,y.2.2.Set,y.2.2.Done)) (fun _=>rfl)) ⟨[2,4,5],[.nilcell 2 4 83 (.powers []),.nilcell 2 5 3 (.ints []),.nilcell 5 4 83 (.powers []),.nilcell 5 5 3 (.ints [])]⟩ [.cells 73 6,.cells 106 2,.cells 73 6,.rows 83,.rows 3,.rows 83,.rows 3]
def zatk:St→Option LR:=L1 85 11 0 zazu (.exit 2) zapo (u4 zez)
def zs50b:=sub (fb Tryz.f14) [0,1,0,1,1,1,1]
theorem zazv:zl (zy50).env 0 zs50b zatk :=
 zd1 (A:=zazt) zh50 fM trivial (k:=za5 zs50b) (by kernel_rfl) rfl (by rintro ⟨x0,x1,x2,x3⟩;kernel_rfl)
def zqm (a0:ByteArray): Tr (Packet×Int) :=
 (.bind (ze 1 (⟨a0,false⟩:zes)) fun v1 =>
 (.bind (ze 6 v1.2) fun v2 =>
 (.bind (ze 1 v2.2) fun v3 =>
 (.bind (ze 7 v3.2) fun v4 =>
 (.bind (ze 1 v4.2) fun v5 =>
 (.bind (zaw v5.1 (⟨0,0,0,0,[],[]⟩:Packet) v5.2 (⟨v1.1,v2.1,v3.1,v4.1,[],[]⟩:Packet)) fun v7 =>
 (.bind (ze 1 v7.2.1) fun v8 =>
 (.bind (zax v8.1 v7.1 v8.2 v7.2.2) fun v9 =>
 (.ite (v9.2.1.bad||(!(v9.2.1.s.toList==(⟨#[]⟩:ByteArray).toList)))
  (.leaf ((⟨0,0,0,0,[],[]⟩:Packet),1))
  (.bind (zfu v9.2.2) fun v11 =>
  (.ite (v11 != 0)
   (.leaf ((⟨0,0,0,0,[],[]⟩:Packet),v11))
   (.leaf (v9.2.2,0)))))))))))))
def ze0 (a0:ByteArray):=(zqm a0).run
def zqn:SpecT:=zu 0 (Par.q strP) 1 [] zqm default (LQ.v (Par.ofLP zjw) (Par.q intP)) 2 []
theorem ztz:zg Tryz.prog 14 (zqn).spec :=
 sK (A:=⟨[([0,1,0,1,1,1],zatj),([0,1,0,1,1,1,1],zatk)],[],[],zv50,[]⟩) zh50 fM Tryz.func14 (c:=(fb Tryz.f14)) (by kernel_rfl) (Lc:=0) ⟨zazs,zazv,trivial⟩ _ _ 11 _ _ _ _ _ _ [.pubB 2] (by rintro a0;kernel_rfl)
end
