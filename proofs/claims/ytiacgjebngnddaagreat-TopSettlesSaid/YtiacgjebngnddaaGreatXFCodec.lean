/-
  The functions, each by its tree.
-/
import Derived.Test.YtiacgjebngnddaaGreatXAbC
import Derived.Test.YtiacgjebngnddaaGreatXFLine
import Derived.Test.YtiacgjebngnddaaGreatXFRatio
import Derived.Test.YtiacgjebngnddaaGreatXFacts
namespace Go.Proofs.YtiacgjebngnddaaGreat.Ab
open Go Go.RowKit
open Go.IntKind (i64 u64)
set_option maxRecDepth 100000
set_option linter.unusedVariables false
set_option linter.unusedSimpArgs false
noncomputable section
def zv45:List (List Nat):=[[0,1],[0,1,7,8,9],[0,1,7,8,9,10],[0,1,5,6,7,8,9],[0,1,7,8,9,47],[4],[0,1,7,8,9],[4]]
def zg2 (x0:(List Power)) (x1:Int) (x2:(List Power)) (x3 x4:Int): Tr (((List Power)×Int×(List Power)×Int×Int)⊕((Bool)⊕(Unit))) :=
 (.ite (decide (x4 < x3))
  (.guard ((0:Int)≤x4∧x4 < ((Sl.len (.powers x2):Nat):Int))
  (.guard (((decide (x4 > 0))=true→(((decide (((x2.getD x4.toNat default).V) < 0))||(decide (((x2.getD x4.toNat default).V)≥6)))=false→((0:Int)≤(i64.wrap (x4 - 1))∧(i64.wrap (x4 - 1)) < ((Sl.len (.powers x0):Nat):Int))∧True)))
  (.ite (((((decide (((x2.getD x4.toNat default).V) < 0))||(decide (((x2.getD x4.toNat default).V)≥6)))||((decide (x4 > 0))&&(decide (((x0.getD ((i64.wrap (x4 - 1)).toNat) default).V)≥((x2.getD x4.toNat default).V)))))||(decide (((x2.getD x4.toNat default).N) < x1)))||(decide (((x2.getD x4.toNat default).N) > 1125899906842624)))
   (.leaf (.inr (.inl false)))
   (.leaf (.inl (x0,x1,x2,x3,i64.wrap (x4+1)))))))
  (.leaf (.inr (.inr ()))))
def zo8 (x0:(List Power)) (x1:Int) (x2:(List Power)) (x3 x4:Int):=zdm (fun s:(List Power)×Int×(List Power)×Int×Int=>(zg2 s.1 s.2.1 s.2.2.1 s.2.2.2.1 s.2.2.2.2).run) (x0,x1,x2,x3,x4)
def zax5:Ann:=⟨[],[],[],zv45,[]⟩
def zax6:=EndD.mk (LQ.v zp (LQ.v intP (LQ.v zp (LQ.v intP (Par.q intP))))) ⟨[0,1,7,8,9],[.pub 0,.nilsl 0 (.powers []),.pub 7,.nilsl 7 (.powers [])]⟩ []
def zap6:=EndD.mk (Par.q boolP) ⟨[4],[]⟩ []
def zap7:EndD (Unit):=⟨LQ.nil,⟨[],[]⟩,[]⟩
def zat4:St→Option LR:=L2 49 3 0 zax6 .ret zap6 (.exit 0) zap7 (u5 zg2)
def zs45a:=sub (fb Tryz.f39) [0,1,0,1]
theorem zax7:zt (zyN).env 0 zs45a zat4 :=
 znl (A:=zax5) zhN fM trivial (k:=zcd zs45a) (by kernel_rfl) rfl rfl (by rintro ⟨x0,x1,x2,x3,x4⟩;kernel_rfl)
def zpt (a0:(List Power)) (a1:Int): Tr (Bool) :=
 (.two (zo8 a0 a1 a0 ((a0.length:Nat):Int) 0) (fun v1 =>
  (.leaf v1)) (fun v2 =>
  (.leaf true)))
def znt (a0:(List Power)) (a1:Int):=(zpt a0 a1).run
def zvd:SpecT:=zw 0 (LQ.v zp (Par.q intP)) 2 [] (u2 zpt) default (Par.q boolP) 1 []
theorem z10:zg Tryz.prog 39 (zvd).spec :=
 sK (A:=⟨[([0,1,0,1],zat4)],[],[],zv45,[]⟩) zhN fM Tryz.func39 (c:=(fb Tryz.f39)) (by kernel_rfl) (Lc:=0) ⟨zax7,trivial⟩ _ _ 3 _ _ _ _ _ _ [] (by rintro ⟨a0,a1⟩;kernel_rfl)
def zv46:List (List Nat):=[[1],[1,5],[2],[1,14],[2],[1,23],[2],[1,47],[2],[1,76],[2],[1,82,83,84],[1,82,83,84,85],[1,3,4,82,83,84],[1,82,83,84,108],[2],[1,82,83,84],[2]]
noncomputable def zy46:EnvT:=⟨Tryz.prog,zah [(39,zvd)]⟩
theorem zh46:(zy46).Ok:=zf ⟨z10,trivial⟩
def zjq (x0:(List Int)) (x1 x2:Int) (x3:Packet): Tr (((List Int)×Int×Int×Packet)⊕((Int)⊕(Unit))) :=
 (.ite (decide (x2 < x1))
  (.guard ((0:Int)≤x2∧x2 < ((Sl.len (.ints x0):Nat):Int))
  (.guard (((decide (x2 > 0))=true→(((decide ((x0.getD x2.toNat 0) < 0))||(decide ((x0.getD x2.toNat 0)≥6)))=false→((0:Int)≤(i64.wrap (x2 - 1))∧(i64.wrap (x2 - 1)) < ((Sl.len (.ints x3.Done):Nat):Int))∧True)))
  (.ite (((decide ((x0.getD x2.toNat 0) < 0))||(decide ((x0.getD x2.toNat 0)≥6)))||((decide (x2 > 0))&&(decide ((x3.Done.getD ((i64.wrap (x2 - 1)).toNat) 0)≥(x0.getD x2.toNat 0)))))
   (.leaf (.inr (.inl 2)))
   (.leaf (.inl (x0,x1,i64.wrap (x2+1),x3))))))
  (.leaf (.inr (.inr ()))))
def zsg (x0:(List Int)) (x1 x2:Int) (x3:Packet):=zdm (fun s:(List Int)×Int×Int×Packet=>(zjq s.1 s.2.1 s.2.2.1 s.2.2.2).run) (x0,x1,x2,x3)
def zax8:Ann:=⟨[],[],[],zv46,[]⟩
def zax9:=EndD.mk (LQ.kp 0 0 (LQ.v zgh (LQ.v intP (LQ.v intP (LP.q zkg))))) ⟨[1,82,83,84],[.pub 82,.nilsl 82 (.ints [])]⟩ [.cells 73 6]
def zap8:=EndD.mk (Par.q intP) ⟨[2],[]⟩ []
def zap9:EndD (Unit):=⟨LQ.nil,⟨[],[]⟩,[]⟩
def zat5:St→Option LR:=L2 110 3 0 zax9 .ret zap8 (.exit 1) zap9 (u4 zjq)
def zs46a:=sub (fb Tryz.f29) [0,1,0,1,1]
theorem zaya:zt (zy46).env 0 zs46a zat5 :=
 znl (A:=zax8) zh46 fM trivial (k:=zcd zs46a) (by kernel_rfl) rfl rfl (by rintro ⟨x0,x1,x2,x3⟩;kernel_rfl)
def zte (a0:Packet): Tr (Int) :=
 (.ite ((decide (a0.Kind < 1))||(decide (a0.Kind > 4)))
  (.leaf 3)
  (.ite ((decide (a0.Id < 1))||(decide (a0.Id > 1099511627776)))
   (.leaf 2)
   (.ite ((decide (a0.Kind≥3))&&((((decide (a0.V < 0))||(decide (a0.V≥6)))||(decide (a0.N < 1)))||(decide (a0.N > 1125899906842624))))
    (.leaf 2)
    (.ite (((decide (a0.Kind≤2))&&((a0.V != 0)||(a0.N != 0)))||((a0.Kind != 1)&&(decide ((i64.wrap (((a0.Set.length:Nat):Int)+((a0.Done.length:Nat):Int))) > 0))))
     (.leaf 1)
     (.bind (znt a0.Set 0) fun v1 =>
     (.ite (!v1)
      (.leaf 2)
      (.two (zsg a0.Done ((a0.Done.length:Nat):Int) 0 a0) (fun v2 =>
       (.leaf v2)) (fun v3 =>
       (.leaf 0)))))))))
def zfi (a0:Packet):=(zte a0).run
def zlp:SpecT:=zw 0 (Par.q (Par.ofLP zkg)) 1 [] zte default (Par.q intP) 1 []
theorem zm7:zg Tryz.prog 29 (zlp).spec :=
 sK (A:=⟨[([0,1,0,1,1],zat5)],[],[],zv46,[]⟩) zh46 fM Tryz.func29 (c:=(fb Tryz.f29)) (by kernel_rfl) (Lc:=0) ⟨zaya,trivial⟩ _ _ 3 _ _ _ _ _ _ [] (by rintro a0;kernel_rfl)
def zv47:List (List Nat):=[[0,1,2],[0,1,7],[0,1,7,11],[0,1,7],[0,1,7],[6]]
def zlc (x0 x1:Int) (x2:(List UInt8)): Tr ((Int×Int×(List UInt8))⊕((List UInt8))) :=
 (.ite (decide (x1≥0))
  (.guard ((0:Int)≤(u64.wrap (i64.wrap (8*x1))))
  (.guard (0≤(IntKind.u8.wrap (Int.fdiv x0 (2 ^ (min (u64.wrap (i64.wrap (8*x1))).toNat 64))))∧(IntKind.u8.wrap (Int.fdiv x0 (2 ^ (min (u64.wrap (i64.wrap (8*x1))).toNat 64)))) < 256)
  (.guard ((Sl.len (.bytes x2)+Sl.len (.bytes [UInt8.ofNat (IntKind.u8.wrap (Int.fdiv x0 (2 ^ (min (u64.wrap (i64.wrap (8*x1))).toNat 64)))).toNat]))*1≤140737488355328)
  (.leaf (.inl (x0,i64.wrap (x1 - 1),x2++[UInt8.ofNat (IntKind.u8.wrap (Int.fdiv x0 (2 ^ (min (u64.wrap (i64.wrap (8*x1))).toNat 64)))).toNat]))))))
  (.leaf (.inr x2)))
def znu (x0 x1:Int) (x2:(List UInt8)):=zdm (fun s:Int×Int×(List UInt8)=>(zlc s.1 s.2.1 s.2.2).run) (x0,x1,x2)
def zayb:Ann:=⟨[],[],[],zv47,[]⟩
def zayc:=EndD.mk (LQ.k (LQ.c (.own 0)) (LQ.v intP (LQ.v intP (Par.q zxa)))) ⟨[0,1,7],[.nilown 0 5 (.bytes [])]⟩ [.rows 5]
def zaqa:=EndD.mk (LQ.k (LQ.c (.own 0)) (Par.q zxa)) ⟨[0],[.nilown 0 5 (.bytes [])]⟩ [.rows 5]
def zat6:St→Option LR:=L1 24 5 0 zayc (.exit 0) zaqa (u3 zlc)
def zs47a:=sub (fb Tryz.f136) [0,1,0,1]
theorem zayd:zt (zyN).env 0 zs47a zat6 :=
 zht (A:=zayb) zhN fM trivial (k:=zcd zs47a) (by kernel_rfl) rfl (by rintro ⟨x0,x1,x2⟩;kernel_rfl)
def zwg (a0 a1:Int) (a2:(List UInt8)): Tr ((List UInt8)) :=
 (.bind (znu a0 (i64.wrap (a1 - 1)) a2) fun v1 =>
 (.leaf v1))
def zo (a0 a1:Int) (a2:(List UInt8)):=(zwg a0 a1 a2).run
def z11:SpecT:=zw 0 (LQ.k (LQ.c (.own 0)) (LQ.v intP (LQ.v intP (Par.q zxa)))) 3 [.rows 5] (u3 zwg) default (LQ.k (LQ.c (.own 0)) (Par.q zxa)) 1 [.rows 5]
theorem z8x:zg Tryz.prog 136 (z11).spec :=
 sK (A:=⟨[([0,1,0,1],zat6)],[],[],zv47,[]⟩) zhN fM Tryz.func136 (c:=(fb Tryz.f136)) (by kernel_rfl) (Lc:=0) ⟨zayd,trivial⟩ _ _ 5 _ _ _ _ _ _ [.nilown 6 5 (.bytes [])] (by rintro ⟨a0,a1,a2⟩;kernel_rfl)
def zv48:List (List Nat):=[[1],[1,4],[1,4,13],[2,3],[1,5],[1,5],[1,5,34,35,36],[1,5,34,35,36,37],[1,5,7,34,35,36],[1,5,34,35,36],[1,5,34,35,36],[1,5],[5,54,55,56],[5,54,55,56,57],[5,9,54,55,56],[5,54,55,56],[5,54,55,56],[2,3]]
noncomputable def zy48:EnvT:=⟨Tryz.prog,zah [(29,zlp),(136,z11)]⟩
theorem zh48:(zy48).Ok:=zf ⟨zm7,z8x,trivial⟩
def zg3 (x0:(List Power)) (x1 x2:Int) (x3:Packet) (x4:(List UInt8)): Tr (((List Power)×Int×Int×Packet×(List UInt8))⊕(Packet×(List UInt8))) :=
 (.ite (decide (x2 < x1))
  (.guard ((0:Int)≤x2∧x2 < ((Sl.len (.powers x0):Nat):Int))
  (.guard ((zo ((x0.getD x2.toNat default).V) 1 x4).isSome=true)
  (.guard ((zo ((x0.getD x2.toNat default).N) 7 ((zo ((x0.getD x2.toNat default).V) 1 x4).getD default)).isSome=true)
  (.leaf (.inl (x0,x1,i64.wrap (x2+1),x3,((zo ((x0.getD x2.toNat default).N) 7 ((zo ((x0.getD x2.toNat default).V) 1 x4).getD default)).getD default)))))))
  (.leaf (.inr (x3,x4))))
def zjr (x0:(List Power)) (x1 x2:Int) (x3:Packet) (x4:(List UInt8)):=zdm (fun s:(List Power)×Int×Int×Packet×(List UInt8)=>(zg3 s.1 s.2.1 s.2.2.1 s.2.2.2.1 s.2.2.2.2).run) (x0,x1,x2,x3,x4)
def zayh:Ann:=⟨[],[],[],zv48,[]⟩
def zayi:=EndD.mk (LQ.kp 0 0 (LQ.k (LQ.c (.own 1)) (LQ.v zp (LQ.v intP (LQ.v intP (LQ.seq (LP.q zkg) (Par.q zxa))))))) ⟨[1,5,34,35,36],[.nilown 5 5 (.bytes []),.pub 34,.nilsl 34 (.powers [])]⟩ [.cells 73 6,.rows 5]
def zaqb:=EndD.mk (LQ.kp 0 0 (LQ.k (LQ.c (.own 1)) (LQ.seq (LP.q zkg) (Par.q zxa)))) ⟨[1,5],[.nilown 5 5 (.bytes [])]⟩ [.cells 73 6,.rows 5]
def zat7:St→Option LR:=L1 66 8 0 zayi (.exit 0) zaqb (u5 zg3)
def zs48a:=sub (fb Tryz.f113) [0,1,0,1,1,1,1]
theorem zayj:zt (zy48).env 0 zs48a zat7 :=
 zht (A:=zayh) zh48 fM trivial (k:=zcd zs48a) (by kernel_rfl) rfl (by rintro ⟨x0,x1,x2,x3,x4⟩;kernel_rfl)
def zg4 (x0:(List Int)) (x1 x2:Int) (x3:(List UInt8)): Tr (((List Int)×Int×Int×(List UInt8))⊕((List UInt8))) :=
 (.ite (decide (x2 < x1))
  (.guard ((0:Int)≤x2∧x2 < ((Sl.len (.ints x0):Nat):Int))
  (.bind (zo (x0.getD x2.toNat 0) 1 x3) fun v4 =>
  (.leaf (.inl (x0,x1,i64.wrap (x2+1),v4)))))
  (.leaf (.inr x3)))
def zjs (x0:(List Int)) (x1 x2:Int) (x3:(List UInt8)):=zdm (fun s:(List Int)×Int×Int×(List UInt8)=>(zg4 s.1 s.2.1 s.2.2.1 s.2.2.2).run) (x0,x1,x2,x3)
def zayk:Ann:=⟨[],[],[],zv48,[]⟩
def zayl:=EndD.mk (LQ.k (LQ.c (.own 0)) (LQ.v zgh (LQ.v intP (LQ.v intP (Par.q zxa))))) ⟨[5,54,55,56],[.nilown 5 5 (.bytes []),.pub 54,.nilsl 54 (.ints [])]⟩ [.rows 5]
def zaqc:=EndD.mk (LQ.k (LQ.c (.own 0)) (Par.q zxa)) ⟨[5],[.nilown 5 5 (.bytes [])]⟩ [.rows 5]
def zat8:St→Option LR:=L1 66 8 0 zayl (.exit 2) zaqc (u4 zg4)
def zs48b:=sub (fb Tryz.f113) [0,1,0,1,1,1,1,1,1]
theorem zaym:zt (zy48).env 0 zs48b zat8 :=
 zht (A:=zayk) zh48 fM trivial (k:=zcd zs48b) (by kernel_rfl) rfl (by rintro ⟨x0,x1,x2,x3⟩;kernel_rfl)
def zpu (a0:Packet): Tr (ByteArray×Int) :=
 (.bind (zfi a0) fun v1 =>
 (.ite (v1 != 0)
  (.leaf ((⟨#[]⟩:ByteArray),v1))
  (.guard (0≤(IntKind.u8.wrap a0.Kind)∧(IntKind.u8.wrap a0.Kind) < 256)
  (.guard ((zo a0.Id 6 [UInt8.ofNat (IntKind.u8.wrap a0.Kind).toNat]).isSome=true)
  (.guard ((zo a0.V 1 ((zo a0.Id 6 [UInt8.ofNat (IntKind.u8.wrap a0.Kind).toNat]).getD default)).isSome=true)
  (.guard ((zo a0.N 7 ((zo a0.V 1 ((zo a0.Id 6 [UInt8.ofNat (IntKind.u8.wrap a0.Kind).toNat]).getD default)).getD default)).isSome=true)
  (.guard ((zo ((a0.Set.length:Nat):Int) 1 ((zo a0.N 7 ((zo a0.V 1 ((zo a0.Id 6 [UInt8.ofNat (IntKind.u8.wrap a0.Kind).toNat]).getD default)).getD default)).getD default)).isSome=true)
  (.bind (zjr a0.Set ((a0.Set.length:Nat):Int) 0 a0 ((zo ((a0.Set.length:Nat):Int) 1 ((zo a0.N 7 ((zo a0.V 1 ((zo a0.Id 6 [UInt8.ofNat (IntKind.u8.wrap a0.Kind).toNat]).getD default)).getD default)).getD default)).getD default)) fun v2 =>
  (.bind (zo ((v2.1.Done.length:Nat):Int) 1 v2.2) fun v3 =>
  (.bind (zjs v2.1.Done ((v2.1.Done.length:Nat):Int) 0 v3) fun v5 =>
  (.leaf ((⟨v5.toArray⟩:ByteArray),0))))))))))))
def zbf (a0:Packet):=(zpu a0).run
def zld:SpecT:=zw 0 (Par.q (Par.ofLP zkg)) 1 [] zpu default (LQ.v strP (Par.q intP)) 2 []
theorem znv:zg Tryz.prog 113 (zld).spec :=
 sK (A:=⟨[([0,1,0,1,1,1,1],zat7),([0,1,0,1,1,1,1,1,1],zat8)],[],[],zv48,[]⟩) zh48 fM Tryz.func113 (c:=(fb Tryz.f113)) (by kernel_rfl) (Lc:=0) ⟨zayj,zaym,trivial⟩ _ _ 8 _ _ _ _ _ _ [] (by rintro a0;kernel_rfl)
def zv49:List (List Nat):=[[0,1],[0,1,14],[],[4],[0,1,5],[0,1,5,27,28,29],[0,1,5,27,28,29,30],[0,1,5,7,27,28,29],[0,1,5,27,28,29],[0,1,5,27,28,29],[5],[4]]
def zbu (x0 x1:Int) (x2:(List UInt8)) (x3 x4:Int) (x5:zek): Tr ((Int×Int×(List UInt8)×Int×Int×zek)⊕(Int×Int×zek)) :=
 (.ite (decide (x4 < x3))
  (.guard ((0:Int)≤x4∧x4 < ((Sl.len (.bytes x2):Nat):Int))
  (.guard ((0:Int)≤8)
  (.leaf (.inl (x0,i64.wrap (((BitVec.ofInt 64 (i64.wrap (x1*2 ^ 8)) ||| BitVec.ofInt 64 (i64.wrap (((x2.getD x4.toNat 0).toNat:Nat):Int))).toNat:Nat):Int),x2,x3,i64.wrap (x4+1),x5)))))
  (.leaf (.inr (x0,x1,x5))))
def zeq (x0 x1:Int) (x2:(List UInt8)) (x3 x4:Int) (x5:zek):=zdm (fun s:Int×Int×(List UInt8)×Int×Int×zek=>(zbu s.1 s.2.1 s.2.2.1 s.2.2.2.1 s.2.2.2.2.1 s.2.2.2.2.2).run) (x0,x1,x2,x3,x4,x5)
def zayn:Ann:=⟨[],[],[],zv49,[]⟩
def zayo:=EndD.mk (LQ.kp 0 0 (LQ.v intP (LQ.v intP (LQ.v zxa (LQ.v intP (LQ.v intP (LP.q zzp))))))) ⟨[0,1,5,27,28,29],[.pub 27,.nilsl 27 (.bytes [])]⟩ [.cells 106 2]
def zaqd:=EndD.mk (LQ.kp 0 0 (LQ.v intP (LQ.v intP (LP.q zzp)))) ⟨[0,1,5],[]⟩ [.cells 106 2]
def zat9:St→Option LR:=L1 49 3 1 zayo (.exit 0) zaqd (u6 zbu)
def zs49a:=sub (fb Tryz.f28) [0,1,0,1,1,1]
theorem zayp:zt (zyN).env 1 zs49a zat9 :=
 zht (A:=zayn) zhN fM trivial (k:=zcd zs49a) (by kernel_rfl) rfl (by rintro ⟨x0,x1,x2,x3,x4,x5⟩;kernel_rfl)
def zhj (a0:Int) (a1:zek): Tr (Int×zek) :=
 (.ite (decide (a0 > ((a1.s.size:Nat):Int)))
  (.leaf (0,(⟨(⟨#[]⟩:ByteArray),true⟩:zek)))
  (.guard ((0:Int)≤0∧0≤(a0:Int)∧a0≤((a1.s.size:Nat):Int))
  (.guard ((a1.s.extract 0 a0.toNat).size≤9223372036854775807)
  (.bind (zeq a0 0 ((a1.s.extract 0 a0.toNat).data.toList) ((((a1.s.extract 0 a0.toNat).data.toList).length:Nat):Int) 0 a1) fun v1 =>
  (.guard ((0:Int)≤v1.1∧v1.1≤(((v1.2.2.s.size:Nat):Int):Int)∧((v1.2.2.s.size:Nat):Int)≤((v1.2.2.s.size:Nat):Int))
  (.leaf (v1.2.1,(⟨v1.2.2.s.extract v1.1.toNat v1.2.2.s.size,v1.2.2.bad⟩:zek))))))))
def zd (a0:Int) (a1:zek):=(zhj a0 a1).run
def zmm:SpecT:=zw 1 (LQ.kp 0 0 (LQ.v intP (LP.q zzp))) 2 [.cells 106 2] (u2 zhj) default (LQ.v intP (LP.q zzp)) 1 [.cells 106 2]
theorem ztf:zg Tryz.prog 28 (zmm).spec :=
 sK (A:=⟨[([0,1,0,1,1,1],zat9)],[],[],zv49,[]⟩) zhN fM Tryz.func28 (c:=(fb Tryz.f28)) (by kernel_rfl) (Lc:=1) ⟨zayp,trivial⟩ _ _ 3 _ _ _ _ _ _ [] (by rintro ⟨a0,a1⟩;kernel_rfl)
def zv50:List (List Nat):=[[0,2],[2,4],[2,4,5],[2,4,5,6],[2,4,5,6,32],[2,4,5,6],[2,4,5,6,7],[2,4,5,6],[2,4,5,8],[2,4,5,8,56],[2,4,5,8],[2,4,5,8],[2,5,76],[2,3],[2,5,9],[2,5,9,81],[2,3],[2,3]]
noncomputable def zy50:EnvT:=⟨Tryz.prog,zah [(28,zmm),(29,zlp)]⟩
theorem zh50:(zy50).Ok:=zf ⟨ztf,zm7,trivial⟩
def zer (x0:Int) (x1:Packet) (x2:zek) (x3:Packet): Tr ((Int×Packet×zek×Packet)⊕(Packet×zek×Packet)) :=
 (.ite ((decide (x0 > 0))&&(!x2.bad))
  (.bind (zd 1 x2) fun v6 =>
  (.guard ((zd 7 v6.2).isSome=true)
  (.guard ((Sl.len (.powers x3.Set)+Sl.len (.powers [(⟨v6.1,((zd 7 v6.2).getD default).1⟩:Power)]))*16≤140737488355328)
  (.leaf (.inl (i64.wrap (x0 - 1),x1,(((zd 7 v6.2).getD default).2),{ x3 with Set:=x3.Set++[(⟨v6.1,((zd 7 v6.2).getD default).1⟩:Power)] }))))))
  (.leaf (.inr (x1,x2,x3))))
def za0 (x0:Int) (x1:Packet) (x2:zek) (x3:Packet):=zdm (fun s:Int×Packet×zek×Packet=>(zer s.1 s.2.1 s.2.2.1 s.2.2.2).run) (x0,x1,x2,x3)
def zayt:Ann:=⟨[],[],[],zv50,[]⟩
def zayu:=EndD.mk (LQ.map (LQ.kp 0 0 (LQ.kp 1 0 (LQ.kp 2 0 (LQ.v intP (LQ.v intP (LQ.v intP (LQ.v intP (LQ.v intP (LQ.k (LQ.c (.own 3)) (LQ.k (LQ.c (.own 4)) (LQ.seq (LP.q zzp) (LQ.v intP (LQ.v intP (LQ.v intP (LQ.v intP (LQ.k (LQ.c (.own 5)) (LQ.k (LQ.c (.own 6)) (LQ.v zp (LQ.v zgh (LQ.v zp (Par.q zgh))))))))))))))))))))) (fun x=>(x.1,(⟨x.2.1,x.2.2.1,x.2.2.2.1,(d4 x).1,(d8 x).2.2.1,(d8 x).2.2.2.1⟩:Packet),(d4 x).2.1,(⟨(d4 x).2.2.1,(d4 x).2.2.2.1,(d8 x).1,(d8 x).2.1,(d12 x).1,(d12 x).2⟩:Packet))) (fun y=>(y.1,y.2.1.Kind,y.2.1.Id,y.2.1.V,y.2.1.N,y.2.2.1,y.2.2.2.Kind,y.2.2.2.Id,y.2.2.2.V,y.2.2.2.N,y.2.1.Set,y.2.1.Done,y.2.2.2.Set,y.2.2.2.Done)) (fun _=>rfl)) ⟨[2,4,5,6],[.nilcell 2 4 83 (.powers []),.nilcell 2 5 3 (.ints []),.nilcell 5 4 83 (.powers []),.nilcell 5 5 3 (.ints [])]⟩ [.cells 73 6,.cells 106 2,.cells 73 6,.rows 83,.rows 3,.rows 83,.rows 3]
def zaqe:=EndD.mk (LQ.map (LQ.kp 0 0 (LQ.kp 1 0 (LQ.kp 2 0 (LQ.v intP (LQ.v intP (LQ.v intP (LQ.v intP (LQ.k (LQ.c (.own 3)) (LQ.k (LQ.c (.own 4)) (LQ.seq (LP.q zzp) (LQ.v intP (LQ.v intP (LQ.v intP (LQ.v intP (LQ.k (LQ.c (.own 5)) (LQ.k (LQ.c (.own 6)) (LQ.v zp (LQ.v zgh (LQ.v zp (Par.q zgh)))))))))))))))))))) (fun x=>((⟨x.1,x.2.1,x.2.2.1,x.2.2.2.1,(d8 x).2.1,(d8 x).2.2.1⟩:Packet),(d4 x).1,(⟨(d4 x).2.1,(d4 x).2.2.1,(d4 x).2.2.2.1,(d8 x).1,(d8 x).2.2.2.1,(d12 x)⟩:Packet))) (fun y=>(y.1.Kind,y.1.Id,y.1.V,y.1.N,y.2.1,y.2.2.Kind,y.2.2.Id,y.2.2.V,y.2.2.N,y.1.Set,y.1.Done,y.2.2.Set,y.2.2.Done)) (fun _=>rfl)) ⟨[2,4,5],[.nilcell 2 4 83 (.powers []),.nilcell 2 5 3 (.ints []),.nilcell 5 4 83 (.powers []),.nilcell 5 5 3 (.ints [])]⟩ [.cells 73 6,.cells 106 2,.cells 73 6,.rows 83,.rows 3,.rows 83,.rows 3]
def zaua:St→Option LR:=L1 85 11 0 zayu (.exit 0) zaqe (u4 zer)
def zs50a:=sub (fb Tryz.f14) [0,1,0,1,1,1]
theorem zayv:zt (zy50).env 0 zs50a zaua :=
 zht (A:=zayt) zh50 fM trivial (k:=zcd zs50a) (by kernel_rfl) rfl (by rintro ⟨x0,x1,x2,x3⟩;kernel_rfl)
def zes (x0:Int) (x1:Packet) (x2:zek) (x3:Packet): Tr ((Int×Packet×zek×Packet)⊕(Packet×zek×Packet)) :=
 (.ite ((decide (x0 > 0))&&(!x2.bad))
  (.guard ((zd 1 x2).isSome=true)
  (.guard ((Sl.len (.ints x3.Done)+Sl.len (.ints [((zd 1 x2).getD default).1]))*8≤140737488355328)
  (.leaf (.inl (i64.wrap (x0 - 1),x1,(((zd 1 x2).getD default).2),{ x3 with Done:=x3.Done++[((zd 1 x2).getD default).1] })))))
  (.leaf (.inr (x1,x2,x3))))
def za1 (x0:Int) (x1:Packet) (x2:zek) (x3:Packet):=zdm (fun s:Int×Packet×zek×Packet=>(zes s.1 s.2.1 s.2.2.1 s.2.2.2).run) (x0,x1,x2,x3)
def zayw:Ann:=⟨[],[],[],zv50,[]⟩
def zayx:=EndD.mk (LQ.map (LQ.kp 0 0 (LQ.kp 1 0 (LQ.kp 2 0 (LQ.v intP (LQ.v intP (LQ.v intP (LQ.v intP (LQ.v intP (LQ.k (LQ.c (.own 3)) (LQ.k (LQ.c (.own 4)) (LQ.seq (LP.q zzp) (LQ.v intP (LQ.v intP (LQ.v intP (LQ.v intP (LQ.k (LQ.c (.own 5)) (LQ.k (LQ.c (.own 6)) (LQ.v zp (LQ.v zgh (LQ.v zp (Par.q zgh))))))))))))))))))))) (fun x=>(x.1,(⟨x.2.1,x.2.2.1,x.2.2.2.1,(d4 x).1,(d8 x).2.2.1,(d8 x).2.2.2.1⟩:Packet),(d4 x).2.1,(⟨(d4 x).2.2.1,(d4 x).2.2.2.1,(d8 x).1,(d8 x).2.1,(d12 x).1,(d12 x).2⟩:Packet))) (fun y=>(y.1,y.2.1.Kind,y.2.1.Id,y.2.1.V,y.2.1.N,y.2.2.1,y.2.2.2.Kind,y.2.2.2.Id,y.2.2.2.V,y.2.2.2.N,y.2.1.Set,y.2.1.Done,y.2.2.2.Set,y.2.2.2.Done)) (fun _=>rfl)) ⟨[2,4,5,8],[.nilcell 2 4 83 (.powers []),.nilcell 2 5 3 (.ints []),.nilcell 5 4 83 (.powers []),.nilcell 5 5 3 (.ints [])]⟩ [.cells 73 6,.cells 106 2,.cells 73 6,.rows 83,.rows 3,.rows 83,.rows 3]
def zaqf:=EndD.mk (LQ.map (LQ.kp 0 0 (LQ.kp 1 0 (LQ.kp 2 0 (LQ.v intP (LQ.v intP (LQ.v intP (LQ.v intP (LQ.k (LQ.c (.own 3)) (LQ.k (LQ.c (.own 4)) (LQ.seq (LP.q zzp) (LQ.v intP (LQ.v intP (LQ.v intP (LQ.v intP (LQ.k (LQ.c (.own 5)) (LQ.k (LQ.c (.own 6)) (LQ.v zp (LQ.v zgh (LQ.v zp (Par.q zgh)))))))))))))))))))) (fun x=>((⟨x.1,x.2.1,x.2.2.1,x.2.2.2.1,(d8 x).2.1,(d8 x).2.2.1⟩:Packet),(d4 x).1,(⟨(d4 x).2.1,(d4 x).2.2.1,(d4 x).2.2.2.1,(d8 x).1,(d8 x).2.2.2.1,(d12 x)⟩:Packet))) (fun y=>(y.1.Kind,y.1.Id,y.1.V,y.1.N,y.2.1,y.2.2.Kind,y.2.2.Id,y.2.2.V,y.2.2.N,y.1.Set,y.1.Done,y.2.2.Set,y.2.2.Done)) (fun _=>rfl)) ⟨[2,4,5],[.nilcell 2 4 83 (.powers []),.nilcell 2 5 3 (.ints []),.nilcell 5 4 83 (.powers []),.nilcell 5 5 3 (.ints [])]⟩ [.cells 73 6,.cells 106 2,.cells 73 6,.rows 83,.rows 3,.rows 83,.rows 3]
def zaub:St→Option LR:=L1 85 11 0 zayx (.exit 2) zaqf (u4 zes)
def zs50b:=sub (fb Tryz.f14) [0,1,0,1,1,1,1]
theorem zayy:zt (zy50).env 0 zs50b zaub :=
 zht (A:=zayw) zh50 fM trivial (k:=zcd zs50b) (by kernel_rfl) rfl (by rintro ⟨x0,x1,x2,x3⟩;kernel_rfl)
def zpv (a0:ByteArray): Tr (Packet×Int) :=
 (.bind (zd 1 (⟨a0,false⟩:zek)) fun v1 =>
 (.bind (zd 6 v1.2) fun v2 =>
 (.bind (zd 1 v2.2) fun v3 =>
 (.bind (zd 7 v3.2) fun v4 =>
 (.bind (zd 1 v4.2) fun v5 =>
 (.bind (za0 v5.1 (⟨0,0,0,0,[],[]⟩:Packet) v5.2 (⟨v1.1,v2.1,v3.1,v4.1,[],[]⟩:Packet)) fun v7 =>
 (.bind (zd 1 v7.2.1) fun v8 =>
 (.bind (za1 v8.1 v7.1 v8.2 v7.2.2) fun v9 =>
 (.ite (v9.2.1.bad||(!(v9.2.1.s.toList==(⟨#[]⟩:ByteArray).toList)))
  (.leaf ((⟨0,0,0,0,[],[]⟩:Packet),1))
  (.bind (zfi v9.2.2) fun v11 =>
  (.ite (v11 != 0)
   (.leaf ((⟨0,0,0,0,[],[]⟩:Packet),v11))
   (.leaf (v9.2.2,0)))))))))))))
def zet (a0:ByteArray):=(zpv a0).run
def zpw:SpecT:=zw 0 (Par.q strP) 1 [] zpv default (LQ.v (Par.ofLP zkg) (Par.q intP)) 2 []
theorem ztg:zg Tryz.prog 14 (zpw).spec :=
 sK (A:=⟨[([0,1,0,1,1,1],zaua),([0,1,0,1,1,1,1],zaub)],[],[],zv50,[]⟩) zh50 fM Tryz.func14 (c:=(fb Tryz.f14)) (by kernel_rfl) (Lc:=0) ⟨zayv,zayy,trivial⟩ _ _ 11 _ _ _ _ _ _ [.pubB 2] (by rintro a0;kernel_rfl)
end
