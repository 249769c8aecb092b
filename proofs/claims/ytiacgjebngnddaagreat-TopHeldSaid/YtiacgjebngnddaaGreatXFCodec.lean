/-
  The functions, each by its tree.
-/
import Derived.Test.YtiacgjebngnddaaGreatXAbC
import Derived.Test.YtiacgjebngnddaaGreatXFLine
import Derived.Test.YtiacgjebngnddaaGreatXFRatio
import Derived.Test.YtiacgjebngnddaaGreatXFacts
namespace Go.Proofs.YtiacgjebngnddaaGreat.Ab
open Go Go.RowKit
open Go.IntKind (i64 u64)
set_option maxRecDepth 100000
set_option linter.unusedVariables false
set_option linter.unusedSimpArgs false
noncomputable section
def zv45:List (List Nat):=[[0,1],[0,1,7,8,9],[0,1,7,8,9,10],[0,1,5,6,7,8,9],[0,1,7,8,9,47],[4],[0,1,7,8,9],[4]]
def zgp (x0:(List Power)) (x1:Int) (x2:(List Power)) (x3 x4:Int): Tr (((List Power)×Int×(List Power)×Int×Int)⊕((Bool)⊕(Unit))) :=
 (.ite (decide (x4 < x3))
  (.guard ((0:Int)≤x4∧x4 < ((Sl.len (.powers x2):Nat):Int))
  (.guard (((decide (x4 > 0))=true→(((decide (((x2.getD x4.toNat default).V) < 0))||(decide (((x2.getD x4.toNat default).V)≥6)))=false→((0:Int)≤(i64.wrap (x4 - 1))∧(i64.wrap (x4 - 1)) < ((Sl.len (.powers x0):Nat):Int))∧True)))
  (.ite (((((decide (((x2.getD x4.toNat default).V) < 0))||(decide (((x2.getD x4.toNat default).V)≥6)))||((decide (x4 > 0))&&(decide (((x0.getD ((i64.wrap (x4 - 1)).toNat) default).V)≥((x2.getD x4.toNat default).V)))))||(decide (((x2.getD x4.toNat default).N) < x1)))||(decide (((x2.getD x4.toNat default).N) > 1125899906842624)))
   (.leaf (.inr (.inl false)))
   (.leaf (.inl (x0,x1,x2,x3,i64.wrap (x4+1)))))))
  (.leaf (.inr (.inr ()))))
def zog (x0:(List Power)) (x1:Int) (x2:(List Power)) (x3 x4:Int):=zdv (fun s:(List Power)×Int×(List Power)×Int×Int=>(zgp s.1 s.2.1 s.2.2.1 s.2.2.2.1 s.2.2.2.2).run) (x0,x1,x2,x3,x4)
def zavr:Ann:=⟨[],[],[],zv45,[]⟩
def zavs:=EndD.mk (LQ.v zm (LQ.v intP (LQ.v zm (LQ.v intP (Par.q intP))))) ⟨[0,1,7,8,9],[.pub 0,.nilsl 0 (.powers []),.pub 7,.nilsl 7 (.powers [])]⟩ []
def zand:=EndD.mk (Par.q boolP) ⟨[4],[]⟩ []
def zane:EndD (Unit):=⟨LQ.nil,⟨[],[]⟩,[]⟩
def zarn:St→Option LR:=L2 49 3 0 zavs .ret zand (.exit 0) zane (u5 zgp)
def zs45a:=sub (fb Tryz.f39) [0,1,0,1]
theorem zavt:zo (zyN).env 0 zs45a zarn :=
 zpm (A:=zavr) zhN fM trivial (k:=zb5 zs45a) (by kernel_rfl) rfl rfl (by rintro ⟨x0,x1,x2,x3,x4⟩;kernel_rfl)
def zo4 (a0:(List Power)) (a1:Int): Tr (Bool) :=
 (.two (zog a0 a1 a0 ((a0.length:Nat):Int) 0) (fun v1 =>
  (.leaf v1)) (fun v2 =>
  (.leaf true)))
def zm3 (a0:(List Power)) (a1:Int):=(zo4 a0 a1).run
def zuj:SpecT:=zt 0 (LQ.v zm (Par.q intP)) 2 [] (u2 zo4) default (Par.q boolP) 1 []
theorem z00:zf Tryz.prog 39 (zuj).spec :=
 sK (A:=⟨[([0,1,0,1],zarn)],[],[],zv45,[]⟩) zhN fM Tryz.func39 (c:=(fb Tryz.f39)) (by kernel_rfl) (Lc:=0) ⟨zavt,trivial⟩ _ _ 3 _ _ _ _ _ _ [] (by rintro ⟨a0,a1⟩;kernel_rfl)
def zv46:List (List Nat):=[[1],[1,5],[2],[1,14],[2],[1,23],[2],[1,47],[2],[1,76],[2],[1,82,83,84],[1,82,83,84,85],[1,3,4,82,83,84],[1,82,83,84,108],[2],[1,82,83,84],[2]]
noncomputable def zy46:EnvT:=⟨Tryz.prog,zad [(39,zuj)]⟩
theorem zh46:(zy46).Ok:=ze ⟨z00,trivial⟩
def ziz (x0:(List Int)) (x1 x2:Int) (x3:Packet): Tr (((List Int)×Int×Int×Packet)⊕((Int)⊕(Unit))) :=
 (.ite (decide (x2 < x1))
  (.guard ((0:Int)≤x2∧x2 < ((Sl.len (.ints x0):Nat):Int))
  (.guard (((decide (x2 > 0))=true→(((decide ((x0.getD x2.toNat 0) < 0))||(decide ((x0.getD x2.toNat 0)≥6)))=false→((0:Int)≤(i64.wrap (x2 - 1))∧(i64.wrap (x2 - 1)) < ((Sl.len (.ints x3.Done):Nat):Int))∧True)))
  (.ite (((decide ((x0.getD x2.toNat 0) < 0))||(decide ((x0.getD x2.toNat 0)≥6)))||((decide (x2 > 0))&&(decide ((x3.Done.getD ((i64.wrap (x2 - 1)).toNat) 0)≥(x0.getD x2.toNat 0)))))
   (.leaf (.inr (.inl 2)))
   (.leaf (.inl (x0,x1,i64.wrap (x2+1),x3))))))
  (.leaf (.inr (.inr ()))))
def zrr (x0:(List Int)) (x1 x2:Int) (x3:Packet):=zdv (fun s:(List Int)×Int×Int×Packet=>(ziz s.1 s.2.1 s.2.2.1 s.2.2.2).run) (x0,x1,x2,x3)
def zavu:Ann:=⟨[],[],[],zv46,[]⟩
def zavv:=EndD.mk (LQ.kp 0 0 (LQ.v zf5 (LQ.v intP (LQ.v intP (LP.q zjq))))) ⟨[1,82,83,84],[.pub 82,.nilsl 82 (.ints [])]⟩ [.cells 73 6]
def zanf:=EndD.mk (Par.q intP) ⟨[2],[]⟩ []
def zang:EndD (Unit):=⟨LQ.nil,⟨[],[]⟩,[]⟩
def zaro:St→Option LR:=L2 110 3 0 zavv .ret zanf (.exit 1) zang (u4 ziz)
def zs46a:=sub (fb Tryz.f29) [0,1,0,1,1]
theorem zavw:zo (zy46).env 0 zs46a zaro :=
 zpm (A:=zavu) zh46 fM trivial (k:=zb5 zs46a) (by kernel_rfl) rfl rfl (by rintro ⟨x0,x1,x2,x3⟩;kernel_rfl)
def zsm (a0:Packet): Tr (Int) :=
 (.ite ((decide (a0.Kind < 1))||(decide (a0.Kind > 4)))
  (.leaf 3)
  (.ite ((decide (a0.Id < 1))||(decide (a0.Id > 1099511627776)))
   (.leaf 2)
   (.ite ((decide (a0.Kind≥3))&&((((decide (a0.V < 0))||(decide (a0.V≥6)))||(decide (a0.N < 1)))||(decide (a0.N > 1125899906842624))))
    (.leaf 2)
    (.ite (((decide (a0.Kind≤2))&&((a0.V != 0)||(a0.N != 0)))||((a0.Kind != 1)&&(decide ((i64.wrap (((a0.Set.length:Nat):Int)+((a0.Done.length:Nat):Int))) > 0))))
     (.leaf 1)
     (.bind (zm3 a0.Set 0) fun v1 =>
     (.ite (!v1)
      (.leaf 2)
      (.two (zrr a0.Done ((a0.Done.length:Nat):Int) 0 a0) (fun v2 =>
       (.leaf v2)) (fun v3 =>
       (.leaf 0)))))))))
def zfb (a0:Packet):=(zsm a0).run
def zk3:SpecT:=zt 0 (Par.q (Par.ofLP zjq)) 1 [] zsm default (Par.q intP) 1 []
theorem zmk:zf Tryz.prog 29 (zk3).spec :=
 sK (A:=⟨[([0,1,0,1,1],zaro)],[],[],zv46,[]⟩) zh46 fM Tryz.func29 (c:=(fb Tryz.f29)) (by kernel_rfl) (Lc:=0) ⟨zavw,trivial⟩ _ _ 3 _ _ _ _ _ _ [] (by rintro a0;kernel_rfl)
def zv47:List (List Nat):=[[0,1,2],[0,1,7],[0,1,7,11],[0,1,7],[0,1,7],[6]]
def zkm (x0 x1:Int) (x2:(List UInt8)): Tr ((Int×Int×(List UInt8))⊕((List UInt8))) :=
 (.ite (decide (x1≥0))
  (.guard ((0:Int)≤(u64.wrap (i64.wrap (8*x1))))
  (.guard (0≤(IntKind.u8.wrap (Int.fdiv x0 (2 ^ (min (u64.wrap (i64.wrap (8*x1))).toNat 64))))∧(IntKind.u8.wrap (Int.fdiv x0 (2 ^ (min (u64.wrap (i64.wrap (8*x1))).toNat 64)))) < 256)
  (.guard ((Sl.len (.bytes x2)+Sl.len (.bytes [UInt8.ofNat (IntKind.u8.wrap (Int.fdiv x0 (2 ^ (min (u64.wrap (i64.wrap (8*x1))).toNat 64)))).toNat]))*1≤140737488355328)
  (.leaf (.inl (x0,i64.wrap (x1 - 1),x2++[UInt8.ofNat (IntKind.u8.wrap (Int.fdiv x0 (2 ^ (min (u64.wrap (i64.wrap (8*x1))).toNat 64)))).toNat]))))))
  (.leaf (.inr x2)))
def zm4 (x0 x1:Int) (x2:(List UInt8)):=zdv (fun s:Int×Int×(List UInt8)=>(zkm s.1 s.2.1 s.2.2).run) (x0,x1,x2)
def zavx:Ann:=⟨[],[],[],zv47,[]⟩
def zavy:=EndD.mk (LQ.k (LQ.c (.own 0)) (LQ.v intP (LQ.v intP (Par.q zwf)))) ⟨[0,1,7],[.nilown 0 5 (.bytes [])]⟩ [.rows 5]
def zanh:=EndD.mk (LQ.k (LQ.c (.own 0)) (Par.q zwf)) ⟨[0],[.nilown 0 5 (.bytes [])]⟩ [.rows 5]
def zarp:St→Option LR:=L1 24 5 0 zavy (.exit 0) zanh (u3 zkm)
def zs47a:=sub (fb Tryz.f136) [0,1,0,1]
theorem zavz:zo (zyN).env 0 zs47a zarp :=
 zf4 (A:=zavx) zhN fM trivial (k:=zb5 zs47a) (by kernel_rfl) rfl (by rintro ⟨x0,x1,x2⟩;kernel_rfl)
def zvl (a0 a1:Int) (a2:(List UInt8)): Tr ((List UInt8)) :=
 (.bind (zm4 a0 (i64.wrap (a1 - 1)) a2) fun v1 =>
 (.leaf v1))
def zl (a0 a1:Int) (a2:(List UInt8)):=(zvl a0 a1 a2).run
def z01:SpecT:=zt 0 (LQ.k (LQ.c (.own 0)) (LQ.v intP (LQ.v intP (Par.q zwf)))) 3 [.rows 5] (u3 zvl) default (LQ.k (LQ.c (.own 0)) (Par.q zwf)) 1 [.rows 5]
theorem z7q:zf Tryz.prog 136 (z01).spec :=
 sK (A:=⟨[([0,1,0,1],zarp)],[],[],zv47,[]⟩) zhN fM Tryz.func136 (c:=(fb Tryz.f136)) (by kernel_rfl) (Lc:=0) ⟨zavz,trivial⟩ _ _ 5 _ _ _ _ _ _ [.nilown 6 5 (.bytes [])] (by rintro ⟨a0,a1,a2⟩;kernel_rfl)
def zv48:List (List Nat):=[[1],[1,4],[1,4,13],[2,3],[1,5],[1,5],[1,5,34,35,36],[1,5,34,35,36,37],[1,5,7,34,35,36],[1,5,34,35,36],[1,5,34,35,36],[1,5],[5,54,55,56],[5,54,55,56,57],[5,9,54,55,56],[5,54,55,56],[5,54,55,56],[2,3]]
noncomputable def zy48:EnvT:=⟨Tryz.prog,zad [(29,zk3),(136,z01)]⟩
theorem zh48:(zy48).Ok:=ze ⟨zmk,z7q,trivial⟩
def zgq (x0:(List Power)) (x1 x2:Int) (x3:Packet) (x4:(List UInt8)): Tr (((List Power)×Int×Int×Packet×(List UInt8))⊕(Packet×(List UInt8))) :=
 (.ite (decide (x2 < x1))
  (.guard ((0:Int)≤x2∧x2 < ((Sl.len (.powers x0):Nat):Int))
  (.guard ((zl ((x0.getD x2.toNat default).V) 1 x4).isSome=true)
  (.guard ((zl ((x0.getD x2.toNat default).N) 7 ((zl ((x0.getD x2.toNat default).V) 1 x4).getD default)).isSome=true)
  (.leaf (.inl (x0,x1,i64.wrap (x2+1),x3,((zl ((x0.getD x2.toNat default).N) 7 ((zl ((x0.getD x2.toNat default).V) 1 x4).getD default)).getD default)))))))
  (.leaf (.inr (x3,x4))))
def zi0 (x0:(List Power)) (x1 x2:Int) (x3:Packet) (x4:(List UInt8)):=zdv (fun s:(List Power)×Int×Int×Packet×(List UInt8)=>(zgq s.1 s.2.1 s.2.2.1 s.2.2.2.1 s.2.2.2.2).run) (x0,x1,x2,x3,x4)
def zav3:Ann:=⟨[],[],[],zv48,[]⟩
def zav4:=EndD.mk (LQ.kp 0 0 (LQ.k (LQ.c (.own 1)) (LQ.v zm (LQ.v intP (LQ.v intP (LQ.seq (LP.q zjq) (Par.q zwf))))))) ⟨[1,5,34,35,36],[.nilown 5 5 (.bytes []),.pub 34,.nilsl 34 (.powers [])]⟩ [.cells 73 6,.rows 5]
def zani:=EndD.mk (LQ.kp 0 0 (LQ.k (LQ.c (.own 1)) (LQ.seq (LP.q zjq) (Par.q zwf)))) ⟨[1,5],[.nilown 5 5 (.bytes [])]⟩ [.cells 73 6,.rows 5]
def zarq:St→Option LR:=L1 66 8 0 zav4 (.exit 0) zani (u5 zgq)
def zs48a:=sub (fb Tryz.f113) [0,1,0,1,1,1,1]
theorem zav5:zo (zy48).env 0 zs48a zarq :=
 zf4 (A:=zav3) zh48 fM trivial (k:=zb5 zs48a) (by kernel_rfl) rfl (by rintro ⟨x0,x1,x2,x3,x4⟩;kernel_rfl)
def zgr (x0:(List Int)) (x1 x2:Int) (x3:(List UInt8)): Tr (((List Int)×Int×Int×(List UInt8))⊕((List UInt8))) :=
 (.ite (decide (x2 < x1))
  (.guard ((0:Int)≤x2∧x2 < ((Sl.len (.ints x0):Nat):Int))
  (.bind (zl (x0.getD x2.toNat 0) 1 x3) fun v4 =>
  (.leaf (.inl (x0,x1,i64.wrap (x2+1),v4)))))
  (.leaf (.inr x3)))
def zi1 (x0:(List Int)) (x1 x2:Int) (x3:(List UInt8)):=zdv (fun s:(List Int)×Int×Int×(List UInt8)=>(zgr s.1 s.2.1 s.2.2.1 s.2.2.2).run) (x0,x1,x2,x3)
def zav6:Ann:=⟨[],[],[],zv48,[]⟩
def zav7:=EndD.mk (LQ.k (LQ.c (.own 0)) (LQ.v zf5 (LQ.v intP (LQ.v intP (Par.q zwf))))) ⟨[5,54,55,56],[.nilown 5 5 (.bytes []),.pub 54,.nilsl 54 (.ints [])]⟩ [.rows 5]
def zanj:=EndD.mk (LQ.k (LQ.c (.own 0)) (Par.q zwf)) ⟨[5],[.nilown 5 5 (.bytes [])]⟩ [.rows 5]
def zarr:St→Option LR:=L1 66 8 0 zav7 (.exit 2) zanj (u4 zgr)
def zs48b:=sub (fb Tryz.f113) [0,1,0,1,1,1,1,1,1]
theorem zav8:zo (zy48).env 0 zs48b zarr :=
 zf4 (A:=zav6) zh48 fM trivial (k:=zb5 zs48b) (by kernel_rfl) rfl (by rintro ⟨x0,x1,x2,x3⟩;kernel_rfl)
def zo5 (a0:Packet): Tr (ByteArray×Int) :=
 (.bind (zfb a0) fun v1 =>
 (.ite (v1 != 0)
  (.leaf ((⟨#[]⟩:ByteArray),v1))
  (.guard (0≤(IntKind.u8.wrap a0.Kind)∧(IntKind.u8.wrap a0.Kind) < 256)
  (.guard ((zl a0.Id 6 [UInt8.ofNat (IntKind.u8.wrap a0.Kind).toNat]).isSome=true)
  (.guard ((zl a0.V 1 ((zl a0.Id 6 [UInt8.ofNat (IntKind.u8.wrap a0.Kind).toNat]).getD default)).isSome=true)
  (.guard ((zl a0.N 7 ((zl a0.V 1 ((zl a0.Id 6 [UInt8.ofNat (IntKind.u8.wrap a0.Kind).toNat]).getD default)).getD default)).isSome=true)
  (.guard ((zl ((a0.Set.length:Nat):Int) 1 ((zl a0.N 7 ((zl a0.V 1 ((zl a0.Id 6 [UInt8.ofNat (IntKind.u8.wrap a0.Kind).toNat]).getD default)).getD default)).getD default)).isSome=true)
  (.bind (zi0 a0.Set ((a0.Set.length:Nat):Int) 0 a0 ((zl ((a0.Set.length:Nat):Int) 1 ((zl a0.N 7 ((zl a0.V 1 ((zl a0.Id 6 [UInt8.ofNat (IntKind.u8.wrap a0.Kind).toNat]).getD default)).getD default)).getD default)).getD default)) fun v2 =>
  (.bind (zl ((v2.1.Done.length:Nat):Int) 1 v2.2) fun v3 =>
  (.bind (zi1 v2.1.Done ((v2.1.Done.length:Nat):Int) 0 v3) fun v5 =>
  (.leaf ((⟨v5.toArray⟩:ByteArray),0))))))))))))
def za5 (a0:Packet):=(zo5 a0).run
def zkn:SpecT:=zt 0 (Par.q (Par.ofLP zjq)) 1 [] zo5 default (LQ.v strP (Par.q intP)) 2 []
theorem zm5:zf Tryz.prog 113 (zkn).spec :=
 sK (A:=⟨[([0,1,0,1,1,1,1],zarq),([0,1,0,1,1,1,1,1,1],zarr)],[],[],zv48,[]⟩) zh48 fM Tryz.func113 (c:=(fb Tryz.f113)) (by kernel_rfl) (Lc:=0) ⟨zav5,zav8,trivial⟩ _ _ 8 _ _ _ _ _ _ [] (by rintro a0;kernel_rfl)
def zv49:List (List Nat):=[[0,1],[0,1,14],[],[4],[0,1,5],[0,1,5,27,28,29],[0,1,5,27,28,29,30],[0,1,5,7,27,28,29],[0,1,5,27,28,29],[0,1,5,27,28,29],[5],[4]]
def zbk (x0 x1:Int) (x2:(List UInt8)) (x3 x4:Int) (x5:zef): Tr ((Int×Int×(List UInt8)×Int×Int×zef)⊕(Int×Int×zef)) :=
 (.ite (decide (x4 < x3))
  (.guard ((0:Int)≤x4∧x4 < ((Sl.len (.bytes x2):Nat):Int))
  (.guard ((0:Int)≤8)
  (.leaf (.inl (x0,i64.wrap (((BitVec.ofInt 64 (i64.wrap (x1*2 ^ 8)) ||| BitVec.ofInt 64 (i64.wrap (((x2.getD x4.toNat 0).toNat:Nat):Int))).toNat:Nat):Int),x2,x3,i64.wrap (x4+1),x5)))))
  (.leaf (.inr (x0,x1,x5))))
def zel (x0 x1:Int) (x2:(List UInt8)) (x3 x4:Int) (x5:zef):=zdv (fun s:Int×Int×(List UInt8)×Int×Int×zef=>(zbk s.1 s.2.1 s.2.2.1 s.2.2.2.1 s.2.2.2.2.1 s.2.2.2.2.2).run) (x0,x1,x2,x3,x4,x5)
def zav9:Ann:=⟨[],[],[],zv49,[]⟩
def zawa:=EndD.mk (LQ.kp 0 0 (LQ.v intP (LQ.v intP (LQ.v zwf (LQ.v intP (LQ.v intP (LP.q zym))))))) ⟨[0,1,5,27,28,29],[.pub 27,.nilsl 27 (.bytes [])]⟩ [.cells 106 2]
def zank:=EndD.mk (LQ.kp 0 0 (LQ.v intP (LQ.v intP (LP.q zym)))) ⟨[0,1,5],[]⟩ [.cells 106 2]
def zars:St→Option LR:=L1 49 3 1 zawa (.exit 0) zank (u6 zbk)
def zs49a:=sub (fb Tryz.f28) [0,1,0,1,1,1]
theorem zawb:zo (zyN).env 1 zs49a zars :=
 zf4 (A:=zav9) zhN fM trivial (k:=zb5 zs49a) (by kernel_rfl) rfl (by rintro ⟨x0,x1,x2,x3,x4,x5⟩;kernel_rfl)
def zg1 (a0:Int) (a1:zef): Tr (Int×zef) :=
 (.ite (decide (a0 > ((a1.s.size:Nat):Int)))
  (.leaf (0,(⟨(⟨#[]⟩:ByteArray),true⟩:zef)))
  (.guard ((0:Int)≤0∧0≤(a0:Int)∧a0≤((a1.s.size:Nat):Int))
  (.guard ((a1.s.extract 0 a0.toNat).size≤9223372036854775807)
  (.bind (zel a0 0 ((a1.s.extract 0 a0.toNat).data.toList) ((((a1.s.extract 0 a0.toNat).data.toList).length:Nat):Int) 0 a1) fun v1 =>
  (.guard ((0:Int)≤v1.1∧v1.1≤(((v1.2.2.s.size:Nat):Int):Int)∧((v1.2.2.s.size:Nat):Int)≤((v1.2.2.s.size:Nat):Int))
  (.leaf (v1.2.1,(⟨v1.2.2.s.extract v1.1.toNat v1.2.2.s.size,v1.2.2.bad⟩:zef))))))))
def zd (a0:Int) (a1:zef):=(zg1 a0 a1).run
def zlz:SpecT:=zt 1 (LQ.kp 0 0 (LQ.v intP (LP.q zym))) 2 [.cells 106 2] (u2 zg1) default (LQ.v intP (LP.q zym)) 1 [.cells 106 2]
theorem zsn:zf Tryz.prog 28 (zlz).spec :=
 sK (A:=⟨[([0,1,0,1,1,1],zars)],[],[],zv49,[]⟩) zhN fM Tryz.func28 (c:=(fb Tryz.f28)) (by kernel_rfl) (Lc:=1) ⟨zawb,trivial⟩ _ _ 3 _ _ _ _ _ _ [] (by rintro ⟨a0,a1⟩;kernel_rfl)
def zv50:List (List Nat):=[[0,2],[2,4],[2,4,5],[2,4,5,6],[2,4,5,6,32],[2,4,5,6],[2,4,5,6,7],[2,4,5,6],[2,4,5,8],[2,4,5,8,56],[2,4,5,8],[2,4,5,8],[2,5,76],[2,3],[2,5,9],[2,5,9,81],[2,3],[2,3]]
noncomputable def zy50:EnvT:=⟨Tryz.prog,zad [(28,zlz),(29,zk3)]⟩
theorem zh50:(zy50).Ok:=ze ⟨zsn,zmk,trivial⟩
def zem (x0:Int) (x1:Packet) (x2:zef) (x3:Packet): Tr ((Int×Packet×zef×Packet)⊕(Packet×zef×Packet)) :=
 (.ite ((decide (x0 > 0))&&(!x2.bad))
  (.bind (zd 1 x2) fun v6 =>
  (.guard ((zd 7 v6.2).isSome=true)
  (.guard ((Sl.len (.powers x3.Set)+Sl.len (.powers [(⟨v6.1,((zd 7 v6.2).getD default).1⟩:Power)]))*16≤140737488355328)
  (.leaf (.inl (i64.wrap (x0 - 1),x1,(((zd 7 v6.2).getD default).2),{ x3 with Set:=x3.Set++[(⟨v6.1,((zd 7 v6.2).getD default).1⟩:Power)] }))))))
  (.leaf (.inr (x1,x2,x3))))
def zap (x0:Int) (x1:Packet) (x2:zef) (x3:Packet):=zdv (fun s:Int×Packet×zef×Packet=>(zem s.1 s.2.1 s.2.2.1 s.2.2.2).run) (x0,x1,x2,x3)
def zawf:Ann:=⟨[],[],[],zv50,[]⟩
def zawg:=EndD.mk (LQ.map (LQ.kp 0 0 (LQ.kp 1 0 (LQ.kp 2 0 (LQ.v intP (LQ.v intP (LQ.v intP (LQ.v intP (LQ.v intP (LQ.k (LQ.c (.own 3)) (LQ.k (LQ.c (.own 4)) (LQ.seq (LP.q zym) (LQ.v intP (LQ.v intP (LQ.v intP (LQ.v intP (LQ.k (LQ.c (.own 5)) (LQ.k (LQ.c (.own 6)) (LQ.v zm (LQ.v zf5 (LQ.v zm (Par.q zf5))))))))))))))))))))) (fun x=>(x.1,(⟨x.2.1,x.2.2.1,x.2.2.2.1,(d4 x).1,(d8 x).2.2.1,(d8 x).2.2.2.1⟩:Packet),(d4 x).2.1,(⟨(d4 x).2.2.1,(d4 x).2.2.2.1,(d8 x).1,(d8 x).2.1,(d12 x).1,(d12 x).2⟩:Packet))) (fun y=>(y.1,y.2.1.Kind,y.2.1.Id,y.2.1.V,y.2.1.N,y.2.2.1,y.2.2.2.Kind,y.2.2.2.Id,y.2.2.2.V,y.2.2.2.N,y.2.1.Set,y.2.1.Done,y.2.2.2.Set,y.2.2.2.Done)) (fun _=>rfl)) ⟨[2,4,5,6],[.nilcell 2 4 83 (.powers []),.nilcell 2 5 3 (.ints []),.nilcell 5 4 83 (.powers []),.nilcell 5 5 3 (.ints [])]⟩ [.cells 73 6,.cells 106 2,.cells 73 6,.rows 83,.rows 3,.rows 83,.rows 3]
def zanl:=EndD.mk (LQ.map (LQ.kp 0 0 (LQ.kp 1 0 (LQ.kp 2 0 (LQ.v intP (LQ.v intP (LQ.v intP (LQ.v intP (LQ.k (LQ.c (.own 3)) (LQ.k (LQ.c (.own 4)) (LQ.seq (LP.q zym) (LQ.v intP (LQ.v intP (LQ.v intP (LQ.v intP (LQ.k (LQ.c (.own 5)) (LQ.k (LQ.c (.own 6)) (LQ.v zm (LQ.v zf5 (LQ.v zm (Par.q zf5)))))))))))))))))))) (fun x=>((⟨x.1,x.2.1,x.2.2.1,x.2.2.2.1,(d8 x).2.1,(d8 x).2.2.1⟩:Packet),(d4 x).1,(⟨(d4 x).2.1,(d4 x).2.2.1,(d4 x).2.2.2.1,(d8 x).1,(d8 x).2.2.2.1,(d12 x)⟩:Packet))) (fun y=>(y.1.Kind,y.1.Id,y.1.V,y.1.N,y.2.1,y.2.2.Kind,y.2.2.Id,y.2.2.V,y.2.2.N,y.1.Set,y.1.Done,y.2.2.Set,y.2.2.Done)) (fun _=>rfl)) ⟨[2,4,5],[.nilcell 2 4 83 (.powers []),.nilcell 2 5 3 (.ints []),.nilcell 5 4 83 (.powers []),.nilcell 5 5 3 (.ints [])]⟩ [.cells 73 6,.cells 106 2,.cells 73 6,.rows 83,.rows 3,.rows 83,.rows 3]
def zart:St→Option LR:=L1 85 11 0 zawg (.exit 0) zanl (u4 zem)
def zs50a:=sub (fb Tryz.f14) [0,1,0,1,1,1]
theorem zawh:zo (zy50).env 0 zs50a zart :=
 zf4 (A:=zawf) zh50 fM trivial (k:=zb5 zs50a) (by kernel_rfl) rfl (by rintro ⟨x0,x1,x2,x3⟩;kernel_rfl)
def zen (x0:Int) (x1:Packet) (x2:zef) (x3:Packet): Tr ((Int×Packet×zef×Packet)⊕(Packet×zef×Packet)) :=
 (.ite ((decide (x0 > 0))&&(!x2.bad))
  (.guard ((zd 1 x2).isSome=true)
  (.guard ((Sl.len (.ints x3.Done)+Sl.len (.ints [((zd 1 x2).getD default).1]))*8≤140737488355328)
  (.leaf (.inl (i64.wrap (x0 - 1),x1,(((zd 1 x2).getD default).2),{ x3 with Done:=x3.Done++[((zd 1 x2).getD default).1] })))))
  (.leaf (.inr (x1,x2,x3))))
def zaq (x0:Int) (x1:Packet) (x2:zef) (x3:Packet):=zdv (fun s:Int×Packet×zef×Packet=>(zen s.1 s.2.1 s.2.2.1 s.2.2.2).run) (x0,x1,x2,x3)
def zawi:Ann:=⟨[],[],[],zv50,[]⟩
def zawj:=EndD.mk (LQ.map (LQ.kp 0 0 (LQ.kp 1 0 (LQ.kp 2 0 (LQ.v intP (LQ.v intP (LQ.v intP (LQ.v intP (LQ.v intP (LQ.k (LQ.c (.own 3)) (LQ.k (LQ.c (.own 4)) (LQ.seq (LP.q zym) (LQ.v intP (LQ.v intP (LQ.v intP (LQ.v intP (LQ.k (LQ.c (.own 5)) (LQ.k (LQ.c (.own 6)) (LQ.v zm (LQ.v zf5 (LQ.v zm (Par.q zf5))))))))))))))))))))) (fun x=>(x.1,(⟨x.2.1,x.2.2.1,x.2.2.2.1,(d4 x).1,(d8 x).2.2.1,(d8 x).2.2.2.1⟩:Packet),(d4 x).2.1,(⟨(d4 x).2.2.1,(d4 x).2.2.2.1,(d8 x).1,(d8 x).2.1,(d12 x).1,(d12 x).2⟩:Packet))) (fun y=>(y.1,y.2.1.Kind,y.2.1.Id,y.2.1.V,y.2.1.N,y.2.2.1,y.2.2.2.Kind,y.2.2.2.Id,y.2.2.2.V,y.2.2.2.N,y.2.1.Set,y.2.1.Done,y.2.2.2.Set,y.2.2.2.Done)) (fun _=>rfl)) ⟨[2,4,5,8],[.nilcell 2 4 83 (.powers []),.nilcell 2 5 3 (.ints []),.nilcell 5 4 83 (.powers []),.nilcell 5 5 3 (.ints [])]⟩ [.cells 73 6,.cells 106 2,.cells 73 6,.rows 83,.rows 3,.rows 83,.rows 3]
def zanm:=EndD.mk (LQ.map (LQ.kp 0 0 (LQ.kp 1 0 (LQ.kp 2 0 (LQ.v intP (LQ.v intP (LQ.v intP (LQ.v intP (LQ.k (LQ.c (.own 3)) (LQ.k (LQ.c (.own 4)) (LQ.seq (LP.q zym) (LQ.v intP (LQ.v intP (LQ.v intP (LQ.v intP (LQ.k (LQ.c (.own 5)) (LQ.k (LQ.c (.own 6)) (LQ.v zm (LQ.v zf5 (LQ.v zm (Par.q zf5)))))))))))))))))))) (fun x=>((⟨x.1,x.2.1,x.2.2.1,x.2.2.2.1,(d8 x).2.1,(d8 x).2.2.1⟩:Packet),(d4 x).1,(⟨(d4 x).2.1,(d4 x).2.2.1,(d4 x).2.2.2.1,(d8 x).1,(d8 x).2.2.2.1,(d12 x)⟩:Packet))) (fun y=>(y.1.Kind,y.1.Id,y.1.V,y.1.N,y.2.1,y.2.2.Kind,y.2.2.Id,y.2.2.V,y.2.2.N,y.1.Set,y.1.Done,y.2.2.Set,y.2.2.Done)) (fun _=>rfl)) ⟨[2,4,5],[.nilcell 2 4 83 (.powers []),.nilcell 2 5 3 (.ints []),.nilcell 5 4 83 (.powers []),.nilcell 5 5 3 (.ints [])]⟩ [.cells 73 6,.cells 106 2,.cells 73 6,.rows 83,.rows 3,.rows 83,.rows 3]
def zaru:St→Option LR:=L1 85 11 0 zawj (.exit 2) zanm (u4 zen)
def zs50b:=sub (fb Tryz.f14) [0,1,0,1,1,1,1]
theorem zawk:zo (zy50).env 0 zs50b zaru :=
 zf4 (A:=zawi) zh50 fM trivial (k:=zb5 zs50b) (by kernel_rfl) rfl (by rintro ⟨x0,x1,x2,x3⟩;kernel_rfl)
def zo6 (a0:ByteArray): Tr (Packet×Int) :=
 (.bind (zd 1 (⟨a0,false⟩:zef)) fun v1 =>
 (.bind (zd 6 v1.2) fun v2 =>
 (.bind (zd 1 v2.2) fun v3 =>
 (.bind (zd 7 v3.2) fun v4 =>
 (.bind (zd 1 v4.2) fun v5 =>
 (.bind (zap v5.1 (⟨0,0,0,0,[],[]⟩:Packet) v5.2 (⟨v1.1,v2.1,v3.1,v4.1,[],[]⟩:Packet)) fun v7 =>
 (.bind (zd 1 v7.2.1) fun v8 =>
 (.bind (zaq v8.1 v7.1 v8.2 v7.2.2) fun v9 =>
 (.ite (v9.2.1.bad||(!(v9.2.1.s.toList==(⟨#[]⟩:ByteArray).toList)))
  (.leaf ((⟨0,0,0,0,[],[]⟩:Packet),1))
  (.bind (zfb v9.2.2) fun v11 =>
  (.ite (v11 != 0)
   (.leaf ((⟨0,0,0,0,[],[]⟩:Packet),v11))
   (.leaf (v9.2.2,0)))))))))))))
def zcd (a0:ByteArray):=(zo6 a0).run
def zko:SpecT:=zt 0 (Par.q strP) 1 [] zo6 default (LQ.v (Par.ofLP zjq) (Par.q intP)) 2 []
theorem zm6:zf Tryz.prog 14 (zko).spec :=
 sK (A:=⟨[([0,1,0,1,1,1],zart),([0,1,0,1,1,1,1],zaru)],[],[],zv50,[]⟩) zh50 fM Tryz.func14 (c:=(fb Tryz.f14)) (by kernel_rfl) (Lc:=0) ⟨zawh,zawk,trivial⟩ _ _ 11 _ _ _ _ _ _ [.pubB 2] (by rintro a0;kernel_rfl)
end
