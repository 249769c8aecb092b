/-
  The functions, each by its tree.
-/
import Derived.Test.YtobfadhgiaphnaaGreatXAbFun
import Derived.Test.YtobfadhgiaphnaaGreatXAbStructs
import Derived.Test.YtobfadhgiaphnaaGreatXFLine
import Derived.Test.YtobfadhgiaphnaaGreatXFRatio
import Derived.Test.YtobfadhgiaphnaaGreatXFacts
namespace Go.Proofs.YtobfadhgiaphnaaGreat.Ab
open Go Go.RowKit
set_option maxRecDepth 100000
set_option linter.unusedVariables false
set_option linter.unusedSimpArgs false
noncomputable section
def zv46:List (List Nat):=[[0,1],[0,1,7,8,9],[0,1,7,8,9,10],[0,1,5,6,7,8,9],[0,1,7,8,9,47],[4],[0,1,7,8,9],[4]]
def zj0 (x0:(List Power)) (x1:Int) (x2:(List Power)) (x3 x4:Int): Tr (((List Power)×Int×(List Power)×Int×Int)⊕((Bool)⊕(Unit))) :=
 (.ite (decide (x4 < x3))
  (.guard ((0:Int)≤x4∧x4 < ((Sl.len (.powers x2):Nat):Int))
  (.guard (((decide (x4 > 0))=true→(((decide (((x2.getD x4.toNat default).V) < 0))||(decide (((x2.getD x4.toNat default).V)≥6)))=false→((0:Int)≤(IntKind.i64.wrap (x4 - 1))∧(IntKind.i64.wrap (x4 - 1)) < ((Sl.len (.powers x0):Nat):Int))∧True)))
  (.ite (((((decide (((x2.getD x4.toNat default).V) < 0))||(decide (((x2.getD x4.toNat default).V)≥6)))||((decide (x4 > 0))&&(decide (((x0.getD ((IntKind.i64.wrap (x4 - 1)).toNat) default).V)≥((x2.getD x4.toNat default).V)))))||(decide (((x2.getD x4.toNat default).N) < x1)))||(decide (((x2.getD x4.toNat default).N) > 1125899906842624)))
   (.leaf (.inr (.inl false)))
   (.leaf (.inl (x0,x1,x2,x3,IntKind.i64.wrap (x4+1)))))))
  (.leaf (.inr (.inr ()))))
def zuc (x0:(List Power)) (x1:Int) (x2:(List Power)) (x3 x4:Int):=zbp (fun s:(List Power)×Int×(List Power)×Int×Int=>(zj0 s.1 s.2.1 s.2.2.1 s.2.2.2.1 s.2.2.2.2).run) (x0,x1,x2,x3,x4)
def zbe1:Ann:=⟨[],[],[],zv46,[]⟩
def zbe2:=EndD.mk (LQ.v zg (LQ.v intP (LQ.v zg (LQ.v intP (Par.q intP))))) ⟨[0,1,7,8,9],[.pub 0,.nilsl 0 (.powers []),.pub 7,.nilsl 7 (.powers [])]⟩ []
def za1h:=EndD.mk (Par.q boolP) ⟨[4],[]⟩ []
def za1i:EndD (Unit):=⟨LQ.nil,⟨[],[]⟩,[]⟩
def za5u:St→Option LR:=L2 49 3 0 zbe2 .ret za1h (.exit 0) za1i (u5 zj0)
def zs46a:=sub (fb Tryz.f152) [0,1,0,1]
theorem zbe3:zk (zyN).env 0 zs46a za5u :=
 zkf (A:=zbe1) zhN fM trivial (k:=zab zs46a) (by kernel_rfl) rfl rfl (by rintro ⟨x0,x1,x2,x3,x4⟩;kernel_rfl)
def zva (a0:(List Power)) (a1:Int): Tr (Bool) :=
 (.two (zuc a0 a1 a0 ((a0.length:Nat):Int) 0) (fun v1 =>
  (.leaf v1)) (fun v2 =>
  (.leaf true)))
def zsk (a0:(List Power)) (a1:Int):=(zva a0 a1).run
def z2d:SpecT:=zm 0 (LQ.v zg (Par.q intP)) 2 [] (u2 zva) default (Par.q boolP) 1 []
theorem zaav:ze Tryz.prog 152 (z2d).spec :=
 sK (A:=⟨[([0,1,0,1],za5u)],[],[],zv46,[]⟩) zhN fM Tryz.func152 (c:=(fb Tryz.f152)) (by kernel_rfl) (Lc:=0) ⟨zbe3,trivial⟩ _ _ 3 _ _ _ _ _ _ [] (by rintro ⟨a0,a1⟩;kernel_rfl)
def zv47:List (List Nat):=[[1],[1,5],[2],[1,14],[2],[1,23],[2],[1,47],[2],[1,76],[2],[1,82,83,84],[1,82,83,84,85],[1,3,4,82,83,84],[1,82,83,84,108],[2],[1,82,83,84],[2]]
noncomputable def zy47:EnvT:=⟨Tryz.prog,zw [(152,z2d)]⟩
theorem zh47:(zy47).Ok:=zd ⟨zaav,trivial⟩
def zmx (x0:(List Int)) (x1 x2:Int) (x3:Packet): Tr (((List Int)×Int×Int×Packet)⊕((Int)⊕(Unit))) :=
 (.ite (decide (x2 < x1))
  (.guard ((0:Int)≤x2∧x2 < ((Sl.len (.ints x0):Nat):Int))
  (.guard (((decide (x2 > 0))=true→(((decide ((x0.getD x2.toNat 0) < 0))||(decide ((x0.getD x2.toNat 0)≥6)))=false→((0:Int)≤(IntKind.i64.wrap (x2 - 1))∧(IntKind.i64.wrap (x2 - 1)) < ((Sl.len (.ints x3.Done):Nat):Int))∧True)))
  (.ite (((decide ((x0.getD x2.toNat 0) < 0))||(decide ((x0.getD x2.toNat 0)≥6)))||((decide (x2 > 0))&&(decide ((x3.Done.getD ((IntKind.i64.wrap (x2 - 1)).toNat) 0)≥(x0.getD x2.toNat 0)))))
   (.leaf (.inr (.inl 2)))
   (.leaf (.inl (x0,x1,IntKind.i64.wrap (x2+1),x3))))))
  (.leaf (.inr (.inr ()))))
def zyp (x0:(List Int)) (x1 x2:Int) (x3:Packet):=zbp (fun s:(List Int)×Int×Int×Packet=>(zmx s.1 s.2.1 s.2.2.1 s.2.2.2).run) (x0,x1,x2,x3)
def zbe4:Ann:=⟨[],[],[],zv47,[]⟩
def zbe5:=EndD.mk (LQ.kp 0 0 (LQ.v zbc (LQ.v intP (LQ.v intP (LP.q zes))))) ⟨[1,82,83,84],[.pub 82,.nilsl 82 (.ints [])]⟩ [.cells 110 6]
def za1j:=EndD.mk (Par.q intP) ⟨[2],[]⟩ []
def za1k:EndD (Unit):=⟨LQ.nil,⟨[],[]⟩,[]⟩
def za5v:St→Option LR:=L2 110 3 0 zbe5 .ret za1j (.exit 1) za1k (u4 zmx)
def zs47a:=sub (fb Tryz.f114) [0,1,0,1,1]
theorem zbe6:zk (zy47).env 0 zs47a za5v :=
 zkf (A:=zbe4) zh47 fM trivial (k:=zab zs47a) (by kernel_rfl) rfl rfl (by rintro ⟨x0,x1,x2,x3⟩;kernel_rfl)
def zz5 (a0:Packet): Tr (Int) :=
 (.ite ((decide (a0.Kind < 1))||(decide (a0.Kind > 4)))
  (.leaf 3)
  (.ite ((decide (a0.Id < 1))||(decide (a0.Id > 1099511627776)))
   (.leaf 2)
   (.ite ((decide (a0.Kind≥3))&&((((decide (a0.V < 0))||(decide (a0.V≥6)))||(decide (a0.N < 1)))||(decide (a0.N > 1125899906842624))))
    (.leaf 2)
    (.ite (((decide (a0.Kind≤2))&&((a0.V != 0)||(a0.N != 0)))||((a0.Kind != 1)&&(decide ((IntKind.i64.wrap (((a0.Set.length:Nat):Int)+((a0.Done.length:Nat):Int))) > 0))))
     (.leaf 1)
     (.bind (zsk a0.Set 0) fun v1 =>
     (.ite (!v1)
      (.leaf 2)
      (.two (zyp a0.Done ((a0.Done.length:Nat):Int) 0 a0) (fun v2 =>
       (.leaf v2)) (fun v3 =>
       (.leaf 0)))))))))
def zg6 (a0:Packet):=(zz5 a0).run
def zpo:SpecT:=zm 0 (Par.q (Par.ofLP zes)) 1 [] zz5 default (Par.q intP) 1 []
theorem zrt:ze Tryz.prog 114 (zpo).spec :=
 sK (A:=⟨[([0,1,0,1,1],za5v)],[],[],zv47,[]⟩) zh47 fM Tryz.func114 (c:=(fb Tryz.f114)) (by kernel_rfl) (Lc:=0) ⟨zbe6,trivial⟩ _ _ 3 _ _ _ _ _ _ [] (by rintro a0;kernel_rfl)
def zv48:List (List Nat):=[[0,1,2],[0,1,7],[0,1,7,11],[0,1,7],[0,1,7],[6]]
def zpc (x0 x1:Int) (x2:(List UInt8)): Tr ((Int×Int×(List UInt8))⊕((List UInt8))) :=
 (.ite (decide (x1≥0))
  (.guard ((0:Int)≤(IntKind.u64.wrap (IntKind.i64.wrap (8*x1))))
  (.guard (0≤(IntKind.u8.wrap (Int.fdiv x0 (2 ^ (min (IntKind.u64.wrap (IntKind.i64.wrap (8*x1))).toNat 64))))∧(IntKind.u8.wrap (Int.fdiv x0 (2 ^ (min (IntKind.u64.wrap (IntKind.i64.wrap (8*x1))).toNat 64)))) < 256)
  (.guard ((Sl.len (.bytes x2)+Sl.len (.bytes [UInt8.ofNat (IntKind.u8.wrap (Int.fdiv x0 (2 ^ (min (IntKind.u64.wrap (IntKind.i64.wrap (8*x1))).toNat 64)))).toNat]))*1≤140737488355328)
  (.leaf (.inl (x0,IntKind.i64.wrap (x1 - 1),x2++[UInt8.ofNat (IntKind.u8.wrap (Int.fdiv x0 (2 ^ (min (IntKind.u64.wrap (IntKind.i64.wrap (8*x1))).toNat 64)))).toNat]))))))
  (.leaf (.inr x2)))
def zsl (x0 x1:Int) (x2:(List UInt8)):=zbp (fun s:Int×Int×(List UInt8)=>(zpc s.1 s.2.1 s.2.2).run) (x0,x1,x2)
def zbe7:Ann:=⟨[],[],[],zv48,[]⟩
def zbe8:=EndD.mk (LQ.k (LQ.c (.own 0)) (LQ.v intP (LQ.v intP (Par.q z17)))) ⟨[0,1,7],[.nilown 0 5 (.bytes [])]⟩ [.rows 5]
def za1l:=EndD.mk (LQ.k (LQ.c (.own 0)) (Par.q z17)) ⟨[0],[.nilown 0 5 (.bytes [])]⟩ [.rows 5]
def za5w:St→Option LR:=L1 24 5 0 zbe8 (.exit 0) za1l (u3 zpc)
def zs48a:=sub (fb Tryz.f198) [0,1,0,1]
theorem zbe9:zk (zyN).env 0 zs48a za5w :=
 zb2 (A:=zbe7) zhN fM trivial (k:=zab zs48a) (by kernel_rfl) rfl (by rintro ⟨x0,x1,x2⟩;kernel_rfl)
def z3q (a0 a1:Int) (a2:(List UInt8)): Tr ((List UInt8)) :=
 (.bind (zsl a0 (IntKind.i64.wrap (a1 - 1)) a2) fun v1 =>
 (.leaf v1))
def zu (a0 a1:Int) (a2:(List UInt8)):=(z3q a0 a1 a2).run
def zaaw:SpecT:=zm 0 (LQ.k (LQ.c (.own 0)) (LQ.v intP (LQ.v intP (Par.q z17)))) 3 [.rows 5] (u3 z3q) default (LQ.k (LQ.c (.own 0)) (Par.q z17)) 1 [.rows 5]
theorem zaid:ze Tryz.prog 198 (zaaw).spec :=
 sK (A:=⟨[([0,1,0,1],za5w)],[],[],zv48,[]⟩) zhN fM Tryz.func198 (c:=(fb Tryz.f198)) (by kernel_rfl) (Lc:=0) ⟨zbe9,trivial⟩ _ _ 5 _ _ _ _ _ _ [.nilown 6 5 (.bytes [])] (by rintro ⟨a0,a1,a2⟩;kernel_rfl)
def zv49:List (List Nat):=[[1],[1,4],[1,4,13],[2,3],[1,5],[1,5],[1,5,34,35,36],[1,5,34,35,36,37],[1,5,7,34,35,36],[1,5,34,35,36],[1,5,34,35,36],[1,5],[5,54,55,56],[5,54,55,56,57],[5,9,54,55,56],[5,54,55,56],[5,54,55,56],[2,3]]
noncomputable def zy49:EnvT:=⟨Tryz.prog,zw [(114,zpo),(198,zaaw)]⟩
theorem zh49:(zy49).Ok:=zd ⟨zrt,zaid,trivial⟩
def zj1 (x0:(List Power)) (x1 x2:Int) (x3:Packet) (x4:(List UInt8)): Tr (((List Power)×Int×Int×Packet×(List UInt8))⊕(Packet×(List UInt8))) :=
 (.ite (decide (x2 < x1))
  (.guard ((0:Int)≤x2∧x2 < ((Sl.len (.powers x0):Nat):Int))
  (.guard ((zu ((x0.getD x2.toNat default).V) 1 x4).isSome=true)
  (.guard ((zu ((x0.getD x2.toNat default).N) 7 ((zu ((x0.getD x2.toNat default).V) 1 x4).getD default)).isSome=true)
  (.leaf (.inl (x0,x1,IntKind.i64.wrap (x2+1),x3,((zu ((x0.getD x2.toNat default).N) 7 ((zu ((x0.getD x2.toNat default).V) 1 x4).getD default)).getD default)))))))
  (.leaf (.inr (x3,x4))))
def zmy (x0:(List Power)) (x1 x2:Int) (x3:Packet) (x4:(List UInt8)):=zbp (fun s:(List Power)×Int×Int×Packet×(List UInt8)=>(zj1 s.1 s.2.1 s.2.2.1 s.2.2.2.1 s.2.2.2.2).run) (x0,x1,x2,x3,x4)
def zbfd:Ann:=⟨[],[],[],zv49,[]⟩
def zbfe:=EndD.mk (LQ.kp 0 0 (LQ.k (LQ.c (.own 1)) (LQ.v zg (LQ.v intP (LQ.v intP (LQ.seq (LP.q zes) (Par.q z17))))))) ⟨[1,5,34,35,36],[.nilown 5 5 (.bytes []),.pub 34,.nilsl 34 (.powers [])]⟩ [.cells 110 6,.rows 5]
def za1m:=EndD.mk (LQ.kp 0 0 (LQ.k (LQ.c (.own 1)) (LQ.seq (LP.q zes) (Par.q z17)))) ⟨[1,5],[.nilown 5 5 (.bytes [])]⟩ [.cells 110 6,.rows 5]
def za5x:St→Option LR:=L1 66 8 0 zbfe (.exit 0) za1m (u5 zj1)
def zs49a:=sub (fb Tryz.f173) [0,1,0,1,1,1,1]
theorem zbff:zk (zy49).env 0 zs49a za5x :=
 zb2 (A:=zbfd) zh49 fM trivial (k:=zab zs49a) (by kernel_rfl) rfl (by rintro ⟨x0,x1,x2,x3,x4⟩;kernel_rfl)
def zj2 (x0:(List Int)) (x1 x2:Int) (x3:(List UInt8)): Tr (((List Int)×Int×Int×(List UInt8))⊕((List UInt8))) :=
 (.ite (decide (x2 < x1))
  (.guard ((0:Int)≤x2∧x2 < ((Sl.len (.ints x0):Nat):Int))
  (.bind (zu (x0.getD x2.toNat 0) 1 x3) fun v4 =>
  (.leaf (.inl (x0,x1,IntKind.i64.wrap (x2+1),v4)))))
  (.leaf (.inr x3)))
def zmz (x0:(List Int)) (x1 x2:Int) (x3:(List UInt8)):=zbp (fun s:(List Int)×Int×Int×(List UInt8)=>(zj2 s.1 s.2.1 s.2.2.1 s.2.2.2).run) (x0,x1,x2,x3)
def zbfg:Ann:=⟨[],[],[],zv49,[]⟩
def zbfh:=EndD.mk (LQ.k (LQ.c (.own 0)) (LQ.v zbc (LQ.v intP (LQ.v intP (Par.q z17))))) ⟨[5,54,55,56],[.nilown 5 5 (.bytes []),.pub 54,.nilsl 54 (.ints [])]⟩ [.rows 5]
def za1n:=EndD.mk (LQ.k (LQ.c (.own 0)) (Par.q z17)) ⟨[5],[.nilown 5 5 (.bytes [])]⟩ [.rows 5]
def za5y:St→Option LR:=L1 66 8 0 zbfh (.exit 2) za1n (u4 zj2)
def zs49b:=sub (fb Tryz.f173) [0,1,0,1,1,1,1,1,1]
theorem zbfi:zk (zy49).env 0 zs49b za5y :=
 zb2 (A:=zbfg) zh49 fM trivial (k:=zab zs49b) (by kernel_rfl) rfl (by rintro ⟨x0,x1,x2,x3⟩;kernel_rfl)
def zvb (a0:Packet): Tr (ByteArray×Int) :=
 (.bind (zg6 a0) fun v1 =>
 (.ite (v1 != 0)
  (.leaf ((⟨#[]⟩:ByteArray),v1))
  (.guard (0≤(IntKind.u8.wrap a0.Kind)∧(IntKind.u8.wrap a0.Kind) < 256)
  (.guard ((zu a0.Id 6 [UInt8.ofNat (IntKind.u8.wrap a0.Kind).toNat]).isSome=true)
  (.guard ((zu a0.V 1 ((zu a0.Id 6 [UInt8.ofNat (IntKind.u8.wrap a0.Kind).toNat]).getD default)).isSome=true)
  (.guard ((zu a0.N 7 ((zu a0.V 1 ((zu a0.Id 6 [UInt8.ofNat (IntKind.u8.wrap a0.Kind).toNat]).getD default)).getD default)).isSome=true)
  (.guard ((zu ((a0.Set.length:Nat):Int) 1 ((zu a0.N 7 ((zu a0.V 1 ((zu a0.Id 6 [UInt8.ofNat (IntKind.u8.wrap a0.Kind).toNat]).getD default)).getD default)).getD default)).isSome=true)
  (.bind (zmy a0.Set ((a0.Set.length:Nat):Int) 0 a0 ((zu ((a0.Set.length:Nat):Int) 1 ((zu a0.N 7 ((zu a0.V 1 ((zu a0.Id 6 [UInt8.ofNat (IntKind.u8.wrap a0.Kind).toNat]).getD default)).getD default)).getD default)).getD default)) fun v2 =>
  (.bind (zu ((v2.1.Done.length:Nat):Int) 1 v2.2) fun v3 =>
  (.bind (zmz v2.1.Done ((v2.1.Done.length:Nat):Int) 0 v3) fun v5 =>
  (.leaf ((⟨v5.toArray⟩:ByteArray),0))))))))))))
def zbz (a0:Packet):=(zvb a0).run
def zpd:SpecT:=zm 0 (Par.q (Par.ofLP zes)) 1 [] zvb default (LQ.v z43 (Par.q intP)) 2 []
theorem zsm:ze Tryz.prog 173 (zpd).spec :=
 sK (A:=⟨[([0,1,0,1,1,1,1],za5x),([0,1,0,1,1,1,1,1,1],za5y)],[],[],zv49,[]⟩) zh49 fM Tryz.func173 (c:=(fb Tryz.f173)) (by kernel_rfl) (Lc:=0) ⟨zbff,zbfi,trivial⟩ _ _ 8 _ _ _ _ _ _ [] (by rintro a0;kernel_rfl)
def zv50:List (List Nat):=[[0,1],[0,1,14],[],[4],[0,1,5],[0,1,5,27,28,29],[0,1,5,27,28,29,30],[0,1,5,7,27,28,29],[0,1,5,27,28,29],[0,1,5,27,28,29],[5],[4]]
def zco (x0 x1:Int) (x2:(List UInt8)) (x3 x4:Int) (x5:zf4): Tr ((Int×Int×(List UInt8)×Int×Int×zf4)⊕(Int×Int×zf4)) :=
 (.ite (decide (x4 < x3))
  (.guard ((0:Int)≤x4∧x4 < ((Sl.len (.bytes x2):Nat):Int))
  (.guard ((0:Int)≤8)
  (.leaf (.inl (x0,IntKind.i64.wrap (((BitVec.ofInt 64 (IntKind.i64.wrap (x1*2 ^ 8)) ||| BitVec.ofInt 64 (IntKind.i64.wrap (((x2.getD x4.toNat 0).toNat:Nat):Int))).toNat:Nat):Int),x2,x3,IntKind.i64.wrap (x4+1),x5)))))
  (.leaf (.inr (x0,x1,x5))))
def zga (x0 x1:Int) (x2:(List UInt8)) (x3 x4:Int) (x5:zf4):=zbp (fun s:Int×Int×(List UInt8)×Int×Int×zf4=>(zco s.1 s.2.1 s.2.2.1 s.2.2.2.1 s.2.2.2.2.1 s.2.2.2.2.2).run) (x0,x1,x2,x3,x4,x5)
def zbfj:Ann:=⟨[],[],[],zv50,[]⟩
def zbfk:=EndD.mk (LQ.kp 0 0 (LQ.v intP (LQ.v intP (LQ.v z17 (LQ.v intP (LQ.v intP (LP.q z73))))))) ⟨[0,1,5,27,28,29],[.pub 27,.nilsl 27 (.bytes [])]⟩ [.cells 237 2]
def za1o:=EndD.mk (LQ.kp 0 0 (LQ.v intP (LQ.v intP (LP.q z73)))) ⟨[0,1,5],[]⟩ [.cells 237 2]
def za5z:St→Option LR:=L1 49 3 1 zbfk (.exit 0) za1o (u6 zco)
def zs50a:=sub (fb Tryz.f201) [0,1,0,1,1,1]
theorem zbfl:zk (zyN).env 1 zs50a za5z :=
 zb2 (A:=zbfj) zhN fM trivial (k:=zab zs50a) (by kernel_rfl) rfl (by rintro ⟨x0,x1,x2,x3,x4,x5⟩;kernel_rfl)
def zkg (a0:Int) (a1:zf4): Tr (Int×zf4) :=
 (.ite (decide (a0 > ((a1.s.size:Nat):Int)))
  (.leaf (0,(⟨(⟨#[]⟩:ByteArray),true⟩:zf4)))
  (.guard ((0:Int)≤0∧0≤(a0:Int)∧a0≤((a1.s.size:Nat):Int))
  (.guard ((a1.s.extract 0 a0.toNat).size≤9223372036854775807)
  (.bind (zga a0 0 ((a1.s.extract 0 a0.toNat).data.toList) ((((a1.s.extract 0 a0.toNat).data.toList).length:Nat):Int) 0 a1) fun v1 =>
  (.guard ((0:Int)≤v1.1∧v1.1≤(((v1.2.2.s.size:Nat):Int):Int)∧((v1.2.2.s.size:Nat):Int)≤((v1.2.2.s.size:Nat):Int))
  (.leaf (v1.2.1,(⟨v1.2.2.s.extract v1.1.toNat v1.2.2.s.size,v1.2.2.bad⟩:zf4))))))))
def zh (a0:Int) (a1:zf4):=(zkg a0 a1).run
def zq4:SpecT:=zm 1 (LQ.kp 0 0 (LQ.v intP (LP.q z73))) 2 [.cells 237 2] (u2 zkg) default (LQ.v intP (LP.q z73)) 1 [.cells 237 2]
theorem zz6:ze Tryz.prog 201 (zq4).spec :=
 sK (A:=⟨[([0,1,0,1,1,1],za5z)],[],[],zv50,[]⟩) zhN fM Tryz.func201 (c:=(fb Tryz.f201)) (by kernel_rfl) (Lc:=1) ⟨zbfl,trivial⟩ _ _ 3 _ _ _ _ _ _ [] (by rintro ⟨a0,a1⟩;kernel_rfl)
def zv51:List (List Nat):=[[0,2],[2,4],[2,4,5],[2,4,5,6],[2,4,5,6,32],[2,4,5,6],[2,4,5,6,7],[2,4,5,6],[2,4,5,8],[2,4,5,8,56],[2,4,5,8],[2,4,5,8],[2,5,76],[2,3],[2,5,9],[2,5,9,81],[2,3],[2,3]]
noncomputable def zy51:EnvT:=⟨Tryz.prog,zw [(201,zq4),(114,zpo)]⟩
theorem zh51:(zy51).Ok:=zd ⟨zz6,zrt,trivial⟩
def zgb (x0:Int) (x1:Packet) (x2:zf4) (x3:Packet): Tr ((Int×Packet×zf4×Packet)⊕(Packet×zf4×Packet)) :=
 (.ite ((decide (x0 > 0))&&(!x2.bad))
  (.bind (zh 1 x2) fun v6 =>
  (.guard ((zh 7 v6.2).isSome=true)
  (.guard ((Sl.len (.powers x3.Set)+Sl.len (.powers [(⟨v6.1,((zh 7 v6.2).getD default).1⟩:Power)]))*16≤140737488355328)
  (.leaf (.inl (IntKind.i64.wrap (x0 - 1),x1,(((zh 7 v6.2).getD default).2),{ x3 with Set:=x3.Set++[(⟨v6.1,((zh 7 v6.2).getD default).1⟩:Power)] }))))))
  (.leaf (.inr (x1,x2,x3))))
def za9 (x0:Int) (x1:Packet) (x2:zf4) (x3:Packet):=zbp (fun s:Int×Packet×zf4×Packet=>(zgb s.1 s.2.1 s.2.2.1 s.2.2.2).run) (x0,x1,x2,x3)
def zbfp:Ann:=⟨[],[],[],zv51,[]⟩
def zbfq:=EndD.mk (LQ.map (LQ.kp 0 0 (LQ.kp 1 0 (LQ.kp 2 0 (LQ.v intP (LQ.v intP (LQ.v intP (LQ.v intP (LQ.v intP (LQ.k (LQ.c (.own 3)) (LQ.k (LQ.c (.own 4)) (LQ.seq (LP.q z73) (LQ.v intP (LQ.v intP (LQ.v intP (LQ.v intP (LQ.k (LQ.c (.own 5)) (LQ.k (LQ.c (.own 6)) (LQ.v zg (LQ.v zbc (LQ.v zg (Par.q zbc))))))))))))))))))))) (fun x=>(x.1,(⟨x.2.1,x.2.2.1,x.2.2.2.1,(d4 x).1,(d8 x).2.2.1,(d8 x).2.2.2.1⟩:Packet),(d4 x).2.1,(⟨(d4 x).2.2.1,(d4 x).2.2.2.1,(d8 x).1,(d8 x).2.1,(d12 x).1,(d12 x).2⟩:Packet))) (fun y=>(y.1,y.2.1.Kind,y.2.1.Id,y.2.1.V,y.2.1.N,y.2.2.1,y.2.2.2.Kind,y.2.2.2.Id,y.2.2.2.V,y.2.2.2.N,y.2.1.Set,y.2.1.Done,y.2.2.2.Set,y.2.2.2.Done)) (fun _=>rfl)) ⟨[2,4,5,6],[.nilcell 2 4 154 (.powers []),.nilcell 2 5 3 (.ints []),.nilcell 5 4 154 (.powers []),.nilcell 5 5 3 (.ints [])]⟩ [.cells 110 6,.cells 237 2,.cells 110 6,.rows 154,.rows 3,.rows 154,.rows 3]
def za1p:=EndD.mk (LQ.map (LQ.kp 0 0 (LQ.kp 1 0 (LQ.kp 2 0 (LQ.v intP (LQ.v intP (LQ.v intP (LQ.v intP (LQ.k (LQ.c (.own 3)) (LQ.k (LQ.c (.own 4)) (LQ.seq (LP.q z73) (LQ.v intP (LQ.v intP (LQ.v intP (LQ.v intP (LQ.k (LQ.c (.own 5)) (LQ.k (LQ.c (.own 6)) (LQ.v zg (LQ.v zbc (LQ.v zg (Par.q zbc)))))))))))))))))))) (fun x=>((⟨x.1,x.2.1,x.2.2.1,x.2.2.2.1,(d8 x).2.1,(d8 x).2.2.1⟩:Packet),(d4 x).1,(⟨(d4 x).2.1,(d4 x).2.2.1,(d4 x).2.2.2.1,(d8 x).1,(d8 x).2.2.2.1,(d12 x)⟩:Packet))) (fun y=>(y.1.Kind,y.1.Id,y.1.V,y.1.N,y.2.1,y.2.2.Kind,y.2.2.Id,y.2.2.V,y.2.2.N,y.1.Set,y.1.Done,y.2.2.Set,y.2.2.Done)) (fun _=>rfl)) ⟨[2,4,5],[.nilcell 2 4 154 (.powers []),.nilcell 2 5 3 (.ints []),.nilcell 5 4 154 (.powers []),.nilcell 5 5 3 (.ints [])]⟩ [.cells 110 6,.cells 237 2,.cells 110 6,.rows 154,.rows 3,.rows 154,.rows 3]
def za50:St→Option LR:=L1 85 11 0 zbfq (.exit 0) za1p (u4 zgb)
def zs51a:=sub (fb Tryz.f178) [0,1,0,1,1,1]
theorem zbfr:zk (zy51).env 0 zs51a za50 :=
 zb2 (A:=zbfp) zh51 fM trivial (k:=zab zs51a) (by kernel_rfl) rfl (by rintro ⟨x0,x1,x2,x3⟩;kernel_rfl)
def zgc (x0:Int) (x1:Packet) (x2:zf4) (x3:Packet): Tr ((Int×Packet×zf4×Packet)⊕(Packet×zf4×Packet)) :=
 (.ite ((decide (x0 > 0))&&(!x2.bad))
  (.guard ((zh 1 x2).isSome=true)
  (.guard ((Sl.len (.ints x3.Done)+Sl.len (.ints [((zh 1 x2).getD default).1]))*8≤140737488355328)
  (.leaf (.inl (IntKind.i64.wrap (x0 - 1),x1,(((zh 1 x2).getD default).2),{ x3 with Done:=x3.Done++[((zh 1 x2).getD default).1] })))))
  (.leaf (.inr (x1,x2,x3))))
def zba (x0:Int) (x1:Packet) (x2:zf4) (x3:Packet):=zbp (fun s:Int×Packet×zf4×Packet=>(zgc s.1 s.2.1 s.2.2.1 s.2.2.2).run) (x0,x1,x2,x3)
def zbfs:Ann:=⟨[],[],[],zv51,[]⟩
def zbft:=EndD.mk (LQ.map (LQ.kp 0 0 (LQ.kp 1 0 (LQ.kp 2 0 (LQ.v intP (LQ.v intP (LQ.v intP (LQ.v intP (LQ.v intP (LQ.k (LQ.c (.own 3)) (LQ.k (LQ.c (.own 4)) (LQ.seq (LP.q z73) (LQ.v intP (LQ.v intP (LQ.v intP (LQ.v intP (LQ.k (LQ.c (.own 5)) (LQ.k (LQ.c (.own 6)) (LQ.v zg (LQ.v zbc (LQ.v zg (Par.q zbc))))))))))))))))))))) (fun x=>(x.1,(⟨x.2.1,x.2.2.1,x.2.2.2.1,(d4 x).1,(d8 x).2.2.1,(d8 x).2.2.2.1⟩:Packet),(d4 x).2.1,(⟨(d4 x).2.2.1,(d4 x).2.2.2.1,(d8 x).1,(d8 x).2.1,(d12 x).1,(d12 x).2⟩:Packet))) (fun y=>(y.1,y.2.1.Kind,y.2.1.Id,y.2.1.V,y.2.1.N,y.2.2.1,y.2.2.2.Kind,y.2.2.2.Id,y.2.2.2.V,y.2.2.2.N,y.2.1.Set,y.2.1.Done,y.2.2.2.Set,y.2.2.2.Done)) (fun _=>rfl)) ⟨[2,4,5,8],[.nilcell 2 4 154 (.powers []),.nilcell 2 5 3 (.ints []),.nilcell 5 4 154 (.powers []),.nilcell 5 5 3 (.ints [])]⟩ [.cells 110 6,.cells 237 2,.cells 110 6,.rows 154,.rows 3,.rows 154,.rows 3]
def za1q:=EndD.mk (LQ.map (LQ.kp 0 0 (LQ.kp 1 0 (LQ.kp 2 0 (LQ.v intP (LQ.v intP (LQ.v intP (LQ.v intP (LQ.k (LQ.c (.own 3)) (LQ.k (LQ.c (.own 4)) (LQ.seq (LP.q z73) (LQ.v intP (LQ.v intP (LQ.v intP (LQ.v intP (LQ.k (LQ.c (.own 5)) (LQ.k (LQ.c (.own 6)) (LQ.v zg (LQ.v zbc (LQ.v zg (Par.q zbc)))))))))))))))))))) (fun x=>((⟨x.1,x.2.1,x.2.2.1,x.2.2.2.1,(d8 x).2.1,(d8 x).2.2.1⟩:Packet),(d4 x).1,(⟨(d4 x).2.1,(d4 x).2.2.1,(d4 x).2.2.2.1,(d8 x).1,(d8 x).2.2.2.1,(d12 x)⟩:Packet))) (fun y=>(y.1.Kind,y.1.Id,y.1.V,y.1.N,y.2.1,y.2.2.Kind,y.2.2.Id,y.2.2.V,y.2.2.N,y.1.Set,y.1.Done,y.2.2.Set,y.2.2.Done)) (fun _=>rfl)) ⟨[2,4,5],[.nilcell 2 4 154 (.powers []),.nilcell 2 5 3 (.ints []),.nilcell 5 4 154 (.powers []),.nilcell 5 5 3 (.ints [])]⟩ [.cells 110 6,.cells 237 2,.cells 110 6,.rows 154,.rows 3,.rows 154,.rows 3]
def za51:St→Option LR:=L1 85 11 0 zbft (.exit 2) za1q (u4 zgc)
def zs51b:=sub (fb Tryz.f178) [0,1,0,1,1,1,1]
theorem zbfu:zk (zy51).env 0 zs51b za51 :=
 zb2 (A:=zbfs) zh51 fM trivial (k:=zab zs51b) (by kernel_rfl) rfl (by rintro ⟨x0,x1,x2,x3⟩;kernel_rfl)
def zvc (a0:ByteArray): Tr (Packet×Int) :=
 (.bind (zh 1 (⟨a0,false⟩:zf4)) fun v1 =>
 (.bind (zh 6 v1.2) fun v2 =>
 (.bind (zh 1 v2.2) fun v3 =>
 (.bind (zh 7 v3.2) fun v4 =>
 (.bind (zh 1 v4.2) fun v5 =>
 (.bind (za9 v5.1 (⟨0,0,0,0,[],[]⟩:Packet) v5.2 (⟨v1.1,v2.1,v3.1,v4.1,[],[]⟩:Packet)) fun v7 =>
 (.bind (zh 1 v7.2.1) fun v8 =>
 (.bind (zba v8.1 v7.1 v8.2 v7.2.2) fun v9 =>
 (.ite (v9.2.1.bad||(!(v9.2.1.s.toList==(⟨#[]⟩:ByteArray).toList)))
  (.leaf ((⟨0,0,0,0,[],[]⟩:Packet),1))
  (.bind (zg6 v9.2.2) fun v11 =>
  (.ite (v11 != 0)
   (.leaf ((⟨0,0,0,0,[],[]⟩:Packet),v11))
   (.leaf (v9.2.2,0)))))))))))))
def zgd (a0:ByteArray):=(zvc a0).run
def zvd:SpecT:=zm 0 (Par.q z43) 1 [] zvc default (LQ.v (Par.ofLP zes) (Par.q intP)) 2 []
theorem zz7:ze Tryz.prog 178 (zvd).spec :=
 sK (A:=⟨[([0,1,0,1,1,1],za50),([0,1,0,1,1,1,1],za51)],[],[],zv51,[]⟩) zh51 fM Tryz.func178 (c:=(fb Tryz.f178)) (by kernel_rfl) (Lc:=0) ⟨zbfr,zbfu,trivial⟩ _ _ 11 _ _ _ _ _ _ [.pubB 2] (by rintro a0;kernel_rfl)
def za1r:List (List Nat):=[[1],[1,16],[2],[1,3],[1,3,55],[2],[1,84],[2],[1,4],[1,4,86,87,88],[1,4,86,87,88,89],[1,4,6,86,87,88],[1,6,86,87,88,110],[2],[1,4,86,87,88],[1,4,86,87,88],[1,4],[4,115,116,117],[4,115,116,117,118],[4,8,115,116,117],[8,115,116,117,127],[2],[4,115,116,117],[4,115,116,117],[2]]
def zg7 (x0:Int) (x1:(List Power)) (x2 x3:Int) (x4:Packet): Tr ((Int×(List Power)×Int×Int×Packet)⊕((Int)⊕(Packet))) :=
 (.ite (decide (x3 < x2))
  (.guard ((0:Int)≤x3∧x3 < ((Sl.len (.powers x1):Nat):Int))
  (.ite ((((decide (((x1.getD x3.toNat default).V)≤x0))||(decide (((x1.getD x3.toNat default).V) > 5)))||(decide (((x1.getD x3.toNat default).N) < 0)))||(decide (((x1.getD x3.toNat default).N) > 1125899906842624)))
   (.leaf (.inr (.inl 2)))
   (.leaf (.inl ((x1.getD x3.toNat default).V,x1,x2,IntKind.i64.wrap (x3+1),x4)))))
  (.leaf (.inr (.inr x4))))
def zq5 (x0:Int) (x1:(List Power)) (x2 x3:Int) (x4:Packet):=zbp (fun s:Int×(List Power)×Int×Int×Packet=>(zg7 s.1 s.2.1 s.2.2.1 s.2.2.2.1 s.2.2.2.2).run) (x0,x1,x2,x3,x4)
def za52:Ann:=⟨[],[],[],za1r,[]⟩
def za53:=EndD.mk (LQ.kp 0 0 (LQ.v intP (LQ.v zg (LQ.v intP (LQ.v intP (LP.q zes)))))) ⟨[1,4,86,87,88],[.pub 86,.nilsl 86 (.powers [])]⟩ [.cells 110 6]
def zaue:=EndD.mk (Par.q intP) ⟨[2],[]⟩ []
def zauf:=EndD.mk (LQ.kp 0 0 (LP.q zes)) ⟨[1],[]⟩ [.cells 110 6]
def zay1:St→Option LR:=L2 130 4 0 za53 .ret zaue (.exit 0) zauf (u5 zg7)
def zs126a:=sub (fb Tryz.f98) [0,1,0,1,1,1,1,1,1]
theorem za54:zk (zyN).env 0 zs126a zay1 :=
 zkf (A:=za52) zhN fM trivial (k:=zab zs126a) (by kernel_rfl) rfl rfl (by rintro ⟨x0,x1,x2,x3,x4⟩;kernel_rfl)
def zg8 (x0:Int) (x1:(List Int)) (x2 x3:Int): Tr ((Int×(List Int)×Int×Int)⊕((Int)⊕(Unit))) :=
 (.ite (decide (x3 < x2))
  (.guard ((0:Int)≤x3∧x3 < ((Sl.len (.ints x1):Nat):Int))
  (.ite ((decide ((x1.getD x3.toNat 0)≤x0))||(decide ((x1.getD x3.toNat 0) > 5)))
   (.leaf (.inr (.inl 2)))
   (.leaf (.inl (x1.getD x3.toNat 0,x1,x2,IntKind.i64.wrap (x3+1))))))
  (.leaf (.inr (.inr ()))))
def zq6 (x0:Int) (x1:(List Int)) (x2 x3:Int):=zbp (fun s:Int×(List Int)×Int×Int=>(zg8 s.1 s.2.1 s.2.2.1 s.2.2.2).run) (x0,x1,x2,x3)
def za55:Ann:=⟨[],[],[],za1r,[]⟩
def za56:=EndD.mk (LQ.v intP (LQ.v zbc (LQ.v intP (Par.q intP)))) ⟨[4,115,116,117],[.pub 115,.nilsl 115 (.ints [])]⟩ []
def zaug:=EndD.mk (Par.q intP) ⟨[2],[]⟩ []
def zauh:EndD (Unit):=⟨LQ.nil,⟨[],[]⟩,[]⟩
def zay2:St→Option LR:=L2 130 4 0 za56 .ret zaug (.exit 2) zauh (u4 zg8)
def zs126b:=sub (fb Tryz.f98) [0,1,0,1,1,1,1,1,1,1,1]
theorem za57:zk (zyN).env 0 zs126b zay2 :=
 zkf (A:=za55) zhN fM trivial (k:=zab zs126b) (by kernel_rfl) rfl rfl (by rintro ⟨x0,x1,x2,x3⟩;kernel_rfl)
def zqi (a0:Packet): Tr (Int) :=
 (.ite ((decide (a0.Kind < 1))||(decide (a0.Kind > 4)))
  (.leaf 3)
  (.ite (((decide (a0.Id < 1))||(decide (a0.Id > 1099511627776)))||(((a0.Kind==3)||(a0.Kind==4))&&((((decide (a0.V < 0))||(decide (a0.V > 5)))||(decide (a0.N < 1)))||(decide (a0.N > 1125899906842624)))))
   (.leaf 2)
   (.ite (((!((a0.Kind==3)||(a0.Kind==4)))&&((a0.V != 0)||(a0.N != 0)))||((a0.Kind != 1)&&((decide (((a0.Set.length:Nat):Int) > 0))||(decide (((a0.Done.length:Nat):Int) > 0)))))
    (.leaf 1)
    (.two (zq5 (-1) a0.Set ((a0.Set.length:Nat):Int) 0 a0) (fun v1 =>
     (.leaf v1)) (fun v2 =>
     (.two (zq6 (-1) v2.Done ((v2.Done.length:Nat):Int) 0) (fun v3 =>
      (.leaf v3)) (fun v4 =>
      (.leaf 0))))))))
def zaw (a0:Packet):=(zqi a0).run
def zhn:SpecT:=zm 0 (Par.q (Par.ofLP zes)) 1 [] zqi default (Par.q intP) 1 []
theorem zj3:ze Tryz.prog 98 (zhn).spec :=
 sK (A:=⟨[([0,1,0,1,1,1,1,1,1],zay1),([0,1,0,1,1,1,1,1,1,1,1],zay2)],[],[],za1r,[]⟩) zhN fM Tryz.func98 (c:=(fb Tryz.f98)) (by kernel_rfl) (Lc:=0) ⟨za54,za57,trivial⟩ _ _ 4 _ _ _ _ _ _ [] (by rintro a0;kernel_rfl)
def za58:List (List Nat):=[[0,1],[0,1,5],[0,1,5,7],[0,1,5],[0,1,5],[0,1,5],[4]]
def zle (x0 x1:Int) (x2:ByteArray): Tr ((Int×Int×ByteArray)⊕(ByteArray)) :=
 (.ite (decide (x1 > 0))
  (.guard ((256:Int)≠0)
  (.guard (0≤(IntKind.u8.wrap (Int.tmod x0 256))∧(IntKind.u8.wrap (Int.tmod x0 256)) < 256)
  (.guard ((⟨[UInt8.ofNat (IntKind.u8.wrap (Int.tmod x0 256)).toNat].toArray⟩:ByteArray).size+x2.size≤9223372036854775807)
  (.guard ((256:Int)≠0)
  (.leaf (.inl (IntKind.i64.wrap (Int.tdiv x0 256),IntKind.i64.wrap (x1 - 1),(⟨[UInt8.ofNat (IntKind.u8.wrap (Int.tmod x0 256)).toNat].toArray⟩:ByteArray)++x2)))))))
  (.leaf (.inr x2)))
def zj4 (x0 x1:Int) (x2:ByteArray):=zbp (fun s:Int×Int×ByteArray=>(zle s.1 s.2.1 s.2.2).run) (x0,x1,x2)
def za59:Ann:=⟨[],[],[],za58,[]⟩
def za6a:=EndD.mk (LQ.v intP (LQ.v intP (Par.q z43))) ⟨[0,1,5],[]⟩ []
def zaui:=EndD.mk (Par.q z43) ⟨[5],[]⟩ []
def zay3:St→Option LR:=L1 20 3 0 za6a (.exit 0) zaui (u3 zle)
def zs127a:=sub (fb Tryz.f107) [0,0,1,1]
theorem za6b:zk (zyN).env 0 zs127a zay3 :=
 zb2 (A:=za59) zhN fM trivial (k:=zab zs127a) (by kernel_rfl) rfl (by rintro ⟨x0,x1,x2⟩;kernel_rfl)
def zxu (a0 a1:Int): Tr (ByteArray) :=
 (.bind (zj4 a0 a1 (⟨#[]⟩:ByteArray)) fun v1 =>
 (.leaf v1))
def zj (a0 a1:Int):=(zxu a0 a1).run
def z5q:SpecT:=zm 0 (LQ.v intP (Par.q intP)) 2 [] (u2 zxu) default (Par.q z43) 1 []
theorem zadc:ze Tryz.prog 107 (z5q).spec :=
 sK (A:=⟨[([0,0,1,1],zay3)],[],[],za58,[]⟩) zhN fM Tryz.func107 (c:=(fb Tryz.f107)) (by kernel_rfl) (Lc:=0) ⟨za6b,trivial⟩ _ _ 3 _ _ _ _ _ _ [] (by rintro ⟨a0,a1⟩;kernel_rfl)
def za1s:List (List Nat):=[[1],[1,4],[1,4,13],[2,3],[1,5],[1,5,36,37,38],[1,5,36,37,38,39],[1,5,7,36,37,38],[1,5,36,37,38],[1,5,36,37,38],[1,5],[5,59,60,61],[5,59,60,61,62],[5,9,59,60,61],[5,59,60,61],[5,59,60,61],[2,3]]
noncomputable def za1t:EnvT:=⟨Tryz.prog,zw [(98,zhn),(107,z5q)]⟩
theorem za1u:(za1t).Ok:=zd ⟨zj3,zadc,trivial⟩
def zdj (x0:ByteArray) (x1:(List Power)) (x2 x3:Int) (x4:Packet): Tr ((ByteArray×(List Power)×Int×Int×Packet)⊕(ByteArray×Packet)) :=
 (.ite (decide (x3 < x2))
  (.guard ((0:Int)≤x3∧x3 < ((Sl.len (.powers x1):Nat):Int))
  (.guard ((zj ((x1.getD x3.toNat default).V) 1).isSome=true)
  (.guard ((zj ((x1.getD x3.toNat default).N) 7).isSome=true)
  (.guard (((zj ((x1.getD x3.toNat default).V) 1).getD default).size+((zj ((x1.getD x3.toNat default).N) 7).getD default).size≤9223372036854775807)
  (.guard (x0.size+(((zj ((x1.getD x3.toNat default).V) 1).getD default)++((zj ((x1.getD x3.toNat default).N) 7).getD default)).size≤9223372036854775807)
  (.leaf (.inl (x0++(((zj ((x1.getD x3.toNat default).V) 1).getD default)++((zj ((x1.getD x3.toNat default).N) 7).getD default)),x1,x2,IntKind.i64.wrap (x3+1),x4))))))))
  (.leaf (.inr (x0,x4))))
def zic (x0:ByteArray) (x1:(List Power)) (x2 x3:Int) (x4:Packet):=zbp (fun s:ByteArray×(List Power)×Int×Int×Packet=>(zdj s.1 s.2.1 s.2.2.1 s.2.2.2.1 s.2.2.2.2).run) (x0,x1,x2,x3,x4)
def za6c:Ann:=⟨[],[],[],za1s,[]⟩
def za6d:=EndD.mk (LQ.kp 0 0 (LQ.v z43 (LQ.v zg (LQ.v intP (LQ.v intP (LP.q zes)))))) ⟨[1,5,36,37,38],[.pub 36,.nilsl 36 (.powers [])]⟩ [.cells 110 6]
def zauj:=EndD.mk (LQ.kp 0 0 (LQ.v z43 (LP.q zes))) ⟨[1,5],[]⟩ [.cells 110 6]
def zay4:St→Option LR:=L1 71 4 0 za6d (.exit 0) zauj (u5 zdj)
def zs128a:=sub (fb Tryz.f64) [0,1,0,1,1,1,1]
theorem za6e:zk (za1t).env 0 zs128a zay4 :=
 zb2 (A:=za6c) za1u fM trivial (k:=zab zs128a) (by kernel_rfl) rfl (by rintro ⟨x0,x1,x2,x3,x4⟩;kernel_rfl)
def zdk (x0:ByteArray) (x1:(List Int)) (x2 x3:Int): Tr ((ByteArray×(List Int)×Int×Int)⊕(ByteArray)) :=
 (.ite (decide (x3 < x2))
  (.guard ((0:Int)≤x3∧x3 < ((Sl.len (.ints x1):Nat):Int))
  (.bind (zj (x1.getD x3.toNat 0) 1) fun v4 =>
  (.guard (x0.size+v4.size≤9223372036854775807)
  (.leaf (.inl (x0++v4,x1,x2,IntKind.i64.wrap (x3+1)))))))
  (.leaf (.inr x0)))
def zid (x0:ByteArray) (x1:(List Int)) (x2 x3:Int):=zbp (fun s:ByteArray×(List Int)×Int×Int=>(zdk s.1 s.2.1 s.2.2.1 s.2.2.2).run) (x0,x1,x2,x3)
def za6f:Ann:=⟨[],[],[],za1s,[]⟩
def za6g:=EndD.mk (LQ.v z43 (LQ.v zbc (LQ.v intP (Par.q intP)))) ⟨[5,59,60,61],[.pub 59,.nilsl 59 (.ints [])]⟩ []
def zauk:=EndD.mk (Par.q z43) ⟨[5],[]⟩ []
def zay5:St→Option LR:=L1 71 4 0 za6g (.exit 2) zauk (u4 zdk)
def zs128b:=sub (fb Tryz.f64) [0,1,0,1,1,1,1,1,1]
theorem za6h:zk (za1t).env 0 zs128b zay5 :=
 zb2 (A:=za6f) za1u fM trivial (k:=zab zs128b) (by kernel_rfl) rfl (by rintro ⟨x0,x1,x2,x3⟩;kernel_rfl)
def zm0 (a0:Packet): Tr (ByteArray×Int) :=
 (.bind (zaw a0) fun v1 =>
 (.ite (v1 != 0)
  (.leaf ((⟨#[]⟩:ByteArray),v1))
  (.guard ((zj a0.Kind 1).isSome=true)
  (.guard ((zj a0.Id 6).isSome=true)
  (.guard (((zj a0.Kind 1).getD default).size+((zj a0.Id 6).getD default).size≤9223372036854775807)
  (.guard ((zj a0.V 1).isSome=true)
  (.guard ((((zj a0.Kind 1).getD default)++((zj a0.Id 6).getD default)).size+((zj a0.V 1).getD default).size≤9223372036854775807)
  (.guard ((zj a0.N 7).isSome=true)
  (.guard (((((zj a0.Kind 1).getD default)++((zj a0.Id 6).getD default))++((zj a0.V 1).getD default)).size+((zj a0.N 7).getD default).size≤9223372036854775807)
  (.guard ((zj ((a0.Set.length:Nat):Int) 1).isSome=true)
  (.guard ((((((zj a0.Kind 1).getD default)++((zj a0.Id 6).getD default))++((zj a0.V 1).getD default))++((zj a0.N 7).getD default)).size+((zj ((a0.Set.length:Nat):Int) 1).getD default).size≤9223372036854775807)
  (.bind (zic ((((((zj a0.Kind 1).getD default)++((zj a0.Id 6).getD default))++((zj a0.V 1).getD default))++((zj a0.N 7).getD default))++((zj ((a0.Set.length:Nat):Int) 1).getD default)) a0.Set ((a0.Set.length:Nat):Int) 0 a0) fun v2 =>
  (.bind (zj ((v2.2.Done.length:Nat):Int) 1) fun v3 =>
  (.guard (v2.1.size+v3.size≤9223372036854775807)
  (.bind (zid (v2.1++v3) v2.2.Done ((v2.2.Done.length:Nat):Int) 0) fun v5 =>
  (.leaf (v5,0)))))))))))))))))
def za3 (a0:Packet):=(zm0 a0).run
def ziw:SpecT:=zm 0 (Par.q (Par.ofLP zes)) 1 [] zm0 default (LQ.v z43 (Par.q intP)) 2 []
theorem zlr:ze Tryz.prog 64 (ziw).spec :=
 sK (A:=⟨[([0,1,0,1,1,1,1],zay4),([0,1,0,1,1,1,1,1,1],zay5)],[],[],za1s,[]⟩) za1u fM Tryz.func64 (c:=(fb Tryz.f64)) (by kernel_rfl) (Lc:=0) ⟨za6e,za6h,trivial⟩ _ _ 4 _ _ _ _ _ _ [] (by rintro a0;kernel_rfl)
def za6i:List (List Nat):=[[0],[0,3],[3,7,8,9],[3,7,8,9,10],[3,5,7,8,9],[3,7,8,9],[3,7,8,9],[2]]
def zge (x0:Int) (x1:(List UInt8)) (x2 x3:Int): Tr ((Int×(List UInt8)×Int×Int)⊕(Int)) :=
 (.ite (decide (x3 < x2))
  (.guard ((0:Int)≤x3∧x3 < ((Sl.len (.bytes x1):Nat):Int))
  (.leaf (.inl (IntKind.i64.wrap ((IntKind.i64.wrap (256*x0))+(IntKind.i64.wrap (((x1.getD x3.toNat 0).toNat:Nat):Int))),x1,x2,IntKind.i64.wrap (x3+1)))))
  (.leaf (.inr x0)))
def zud (x0:Int) (x1:(List UInt8)) (x2 x3:Int):=zbp (fun s:Int×(List UInt8)×Int×Int=>(zge s.1 s.2.1 s.2.2.1 s.2.2.2).run) (x0,x1,x2,x3)
def za6j:Ann:=⟨[],[],[],za6i,[]⟩
def za6k:=EndD.mk (LQ.v intP (LQ.v z17 (LQ.v intP (Par.q intP)))) ⟨[3,7,8,9],[.pub 7,.nilsl 7 (.bytes [])]⟩ []
def zaul:=EndD.mk (Par.q intP) ⟨[3],[]⟩ []
def zay6:St→Option LR:=L1 20 2 0 za6k (.exit 0) zaul (u4 zge)
def zs129a:=sub (fb Tryz.f146) [0,1,0,1,1]
theorem za6l:zk (zyN).env 0 zs129a zay6 :=
 zb2 (A:=za6j) zhN fM trivial (k:=zab zs129a) (by kernel_rfl) rfl (by rintro ⟨x0,x1,x2,x3⟩;kernel_rfl)
def zve (a0:ByteArray): Tr (Int) :=
 (.guard (a0.size≤9223372036854775807)
 (.bind (zud 0 a0.data.toList ((a0.data.toList.length:Nat):Int) 0) fun v1 =>
 (.leaf v1)))
def zcp (a0:ByteArray):=(zve a0).run
def z2e:SpecT:=zm 0 (Par.q z43) 1 [] zve default (Par.q intP) 1 []
theorem zaax:ze Tryz.prog 146 (z2e).spec :=
 sK (A:=⟨[([0,1,0,1,1],zay6)],[],[],za6i,[]⟩) zhN fM Tryz.func146 (c:=(fb Tryz.f146)) (by kernel_rfl) (Lc:=0) ⟨za6l,trivial⟩ _ _ 2 _ _ _ _ _ _ [] (by rintro a0;kernel_rfl)
def za1v:List (List Nat):=[[0,2],[0,2,4],[0,2,4,15],[2,3],[0,2,4,5],[0,2,4,5,25],[2,3],[0,2,4,5,6],[0,2,4,5,6,40],[2,3],[0,2,4,5,6,7],[0,2,4,5,6,7,8],[0,2,4,5,6,7,8,57],[0,2,4,5,6,7,8],[0,2,4,5,6,7,8,9],[0,2,4,5,6,7,8],[0,2,4,5,6,7,10],[0,2,4,5,6,7,10,82],[0,2,4,5,6,7,10],[0,2,4,5,6,7,10],[2,4,7,11],[2,4,7,11,101],[2,3],[2,3]]
noncomputable def za1w:EnvT:=⟨Tryz.prog,zw [(146,z2e),(98,zhn)]⟩
theorem za1x:(za1w).Ok:=zd ⟨zaax,zj3,trivial⟩
def zdl (x0:ByteArray) (x1 x2 x3:Int) (x4 x5 x6:Packet): Tr ((ByteArray×Int×Int×Int×Packet×Packet×Packet)⊕(ByteArray×Int×Int×Packet×Packet×Packet)) :=
 (.ite (decide (x3 < x1))
  (.guard ((0:Int)≤(IntKind.i64.wrap (16+(IntKind.i64.wrap (8*x3))))∧(IntKind.i64.wrap (16+(IntKind.i64.wrap (8*x3)))) < ((x0.size:Nat):Int))
  (.guard ((0:Int)≤(IntKind.i64.wrap ((IntKind.i64.wrap (16+(IntKind.i64.wrap (8*x3))))+1))∧(IntKind.i64.wrap ((IntKind.i64.wrap (16+(IntKind.i64.wrap (8*x3))))+1))≤((IntKind.i64.wrap ((IntKind.i64.wrap (16+(IntKind.i64.wrap (8*x3))))+8)):Int)∧(IntKind.i64.wrap ((IntKind.i64.wrap (16+(IntKind.i64.wrap (8*x3))))+8))≤((x0.size:Nat):Int))
  (.guard ((zcp (x0.extract (IntKind.i64.wrap ((IntKind.i64.wrap (16+(IntKind.i64.wrap (8*x3))))+1)).toNat (IntKind.i64.wrap ((IntKind.i64.wrap (16+(IntKind.i64.wrap (8*x3))))+8)).toNat)).isSome=true)
  (.guard ((Sl.len (.powers x6.Set)+Sl.len (.powers [(⟨IntKind.i64.wrap (((x0.data.toList.getD (IntKind.i64.wrap (16+(IntKind.i64.wrap (8*x3)))).toNat 0).toNat:Nat):Int),((zcp (x0.extract (IntKind.i64.wrap ((IntKind.i64.wrap (16+(IntKind.i64.wrap (8*x3))))+1)).toNat (IntKind.i64.wrap ((IntKind.i64.wrap (16+(IntKind.i64.wrap (8*x3))))+8)).toNat)).getD default)⟩:Power)]))*16≤140737488355328)
  (.leaf (.inl (x0,x1,x2,IntKind.i64.wrap (x3+1),x4,x5,{ x6 with Set:=x6.Set++[(⟨IntKind.i64.wrap (((x0.data.toList.getD (IntKind.i64.wrap (16+(IntKind.i64.wrap (8*x3)))).toNat 0).toNat:Nat):Int),((zcp (x0.extract (IntKind.i64.wrap ((IntKind.i64.wrap (16+(IntKind.i64.wrap (8*x3))))+1)).toNat (IntKind.i64.wrap ((IntKind.i64.wrap (16+(IntKind.i64.wrap (8*x3))))+8)).toNat)).getD default)⟩:Power)] })))))))
  (.leaf (.inr (x0,x1,x2,x4,x5,x6))))
def zie (x0:ByteArray) (x1 x2 x3:Int) (x4 x5 x6:Packet):=zbp (fun s:ByteArray×Int×Int×Int×Packet×Packet×Packet=>(zdl s.1 s.2.1 s.2.2.1 s.2.2.2.1 s.2.2.2.2.1 s.2.2.2.2.2.1 s.2.2.2.2.2.2).run) (x0,x1,x2,x3,x4,x5,x6)
def za6m:Ann:=⟨[],[],[],za1v,[]⟩
def za6n:=EndD.mk (LQ.map (LQ.v z43 (LQ.kp 0 0 (LQ.kp 1 0 (LQ.v intP (LQ.v intP (LQ.kp 2 0 (LQ.v intP (LQ.v intP (LQ.v intP (LQ.v intP (LQ.v intP (LQ.k (LQ.c (.own 3)) (LQ.k (LQ.c (.own 4)) (LQ.v intP (LQ.v intP (LQ.v intP (LQ.v intP (LQ.k (LQ.c (.own 5)) (LQ.k (LQ.c (.own 6)) (LQ.v intP (LQ.v intP (LQ.v intP (LQ.v intP (LQ.k (LQ.c (.own 7)) (LQ.k (LQ.c (.own 8)) (LQ.v zg (LQ.v zbc (LQ.v zg (LQ.v zbc (LQ.v zg (Par.q zbc))))))))))))))))))))))))))))))) (fun x=>(x.1,x.2.1,x.2.2.1,x.2.2.2.1,(⟨(d4 x).1,(d4 x).2.1,(d4 x).2.2.1,(d4 x).2.2.2.1,(d16 x).1,(d16 x).2.1⟩:Packet),(⟨(d8 x).1,(d8 x).2.1,(d8 x).2.2.1,(d8 x).2.2.2.1,(d16 x).2.2.1,(d16 x).2.2.2.1⟩:Packet),(⟨(d12 x).1,(d12 x).2.1,(d12 x).2.2.1,(d12 x).2.2.2.1,(d20 x).1,(d20 x).2⟩:Packet))) (fun y=>(y.1,y.2.1,y.2.2.1,y.2.2.2.1,(d4 y).1.Kind,(d4 y).1.Id,(d4 y).1.V,(d4 y).1.N,(d4 y).2.1.Kind,(d4 y).2.1.Id,(d4 y).2.1.V,(d4 y).2.1.N,(d4 y).2.2.Kind,(d4 y).2.2.Id,(d4 y).2.2.V,(d4 y).2.2.N,(d4 y).1.Set,(d4 y).1.Done,(d4 y).2.1.Set,(d4 y).2.1.Done,(d4 y).2.2.Set,(d4 y).2.2.Done)) (fun _=>rfl)) ⟨[0,2,4,5,6,7,8],[.nilcell 2 4 154 (.powers []),.nilcell 2 5 3 (.ints []),.nilcell 4 4 154 (.powers []),.nilcell 4 5 3 (.ints []),.nilcell 7 4 154 (.powers []),.nilcell 7 5 3 (.ints [])]⟩ [.cells 110 6,.cells 110 6,.cells 110 6,.rows 154,.rows 3,.rows 154,.rows 3,.rows 154,.rows 3]
def zaum:=EndD.mk (LQ.map (LQ.v z43 (LQ.kp 0 0 (LQ.kp 1 0 (LQ.v intP (LQ.v intP (LQ.kp 2 0 (LQ.v intP (LQ.v intP (LQ.v intP (LQ.v intP (LQ.k (LQ.c (.own 3)) (LQ.k (LQ.c (.own 4)) (LQ.v intP (LQ.v intP (LQ.v intP (LQ.v intP (LQ.k (LQ.c (.own 5)) (LQ.k (LQ.c (.own 6)) (LQ.v intP (LQ.v intP (LQ.v intP (LQ.v intP (LQ.k (LQ.c (.own 7)) (LQ.k (LQ.c (.own 8)) (LQ.v zg (LQ.v zbc (LQ.v zg (LQ.v zbc (LQ.v zg (Par.q zbc)))))))))))))))))))))))))))))) (fun x=>(x.1,x.2.1,x.2.2.1,(⟨x.2.2.2.1,(d4 x).1,(d4 x).2.1,(d4 x).2.2.1,(d12 x).2.2.2.1,(d16 x).1⟩:Packet),(⟨(d4 x).2.2.2.1,(d8 x).1,(d8 x).2.1,(d8 x).2.2.1,(d16 x).2.1,(d16 x).2.2.1⟩:Packet),(⟨(d8 x).2.2.2.1,(d12 x).1,(d12 x).2.1,(d12 x).2.2.1,(d16 x).2.2.2.1,(d20 x)⟩:Packet))) (fun y=>(y.1,y.2.1,y.2.2.1,y.2.2.2.1.Kind,y.2.2.2.1.Id,y.2.2.2.1.V,y.2.2.2.1.N,(d4 y).1.Kind,(d4 y).1.Id,(d4 y).1.V,(d4 y).1.N,(d4 y).2.Kind,(d4 y).2.Id,(d4 y).2.V,(d4 y).2.N,y.2.2.2.1.Set,y.2.2.2.1.Done,(d4 y).1.Set,(d4 y).1.Done,(d4 y).2.Set,(d4 y).2.Done)) (fun _=>rfl)) ⟨[0,2,4,5,6,7],[.nilcell 2 4 154 (.powers []),.nilcell 2 5 3 (.ints []),.nilcell 4 4 154 (.powers []),.nilcell 4 5 3 (.ints []),.nilcell 7 4 154 (.powers []),.nilcell 7 5 3 (.ints [])]⟩ [.cells 110 6,.cells 110 6,.cells 110 6,.rows 154,.rows 3,.rows 154,.rows 3,.rows 154,.rows 3]
def zay7:St→Option LR:=L1 105 13 0 za6n (.exit 0) zaum (u7 zdl)
def zs130a:=sub (fb Tryz.f108) [0,1,0,1,1,1,1,1,1,1,1]
theorem za6o:zk (za1w).env 0 zs130a zay7 :=
 zb2 (A:=za6m) za1x fM trivial (k:=zab zs130a) (by kernel_rfl) rfl (by rintro ⟨x0,x1,x2,x3,x4,x5,x6⟩;kernel_rfl)
def zdm (x0:ByteArray) (x1 x2 x3:Int) (x4 x5 x6:Packet): Tr ((ByteArray×Int×Int×Int×Packet×Packet×Packet)⊕(Packet×Packet×Packet)) :=
 (.ite (decide (x3 < x2))
  (.guard ((0:Int)≤(IntKind.i64.wrap ((IntKind.i64.wrap (17+(IntKind.i64.wrap (8*x1))))+x3))∧(IntKind.i64.wrap ((IntKind.i64.wrap (17+(IntKind.i64.wrap (8*x1))))+x3)) < ((x0.size:Nat):Int))
  (.guard ((Sl.len (.ints x6.Done)+Sl.len (.ints [IntKind.i64.wrap (((x0.data.toList.getD (IntKind.i64.wrap ((IntKind.i64.wrap (17+(IntKind.i64.wrap (8*x1))))+x3)).toNat 0).toNat:Nat):Int)]))*8≤140737488355328)
  (.leaf (.inl (x0,x1,x2,IntKind.i64.wrap (x3+1),x4,x5,{ x6 with Done:=x6.Done++[IntKind.i64.wrap (((x0.data.toList.getD (IntKind.i64.wrap ((IntKind.i64.wrap (17+(IntKind.i64.wrap (8*x1))))+x3)).toNat 0).toNat:Nat):Int)] })))))
  (.leaf (.inr (x4,x5,x6))))
def zif (x0:ByteArray) (x1 x2 x3:Int) (x4 x5 x6:Packet):=zbp (fun s:ByteArray×Int×Int×Int×Packet×Packet×Packet=>(zdm s.1 s.2.1 s.2.2.1 s.2.2.2.1 s.2.2.2.2.1 s.2.2.2.2.2.1 s.2.2.2.2.2.2).run) (x0,x1,x2,x3,x4,x5,x6)
def za6p:Ann:=⟨[],[],[],za1v,[]⟩
def za6q:=EndD.mk (LQ.map (LQ.v z43 (LQ.kp 0 0 (LQ.kp 1 0 (LQ.v intP (LQ.v intP (LQ.kp 2 0 (LQ.v intP (LQ.v intP (LQ.v intP (LQ.v intP (LQ.v intP (LQ.k (LQ.c (.own 3)) (LQ.k (LQ.c (.own 4)) (LQ.v intP (LQ.v intP (LQ.v intP (LQ.v intP (LQ.k (LQ.c (.own 5)) (LQ.k (LQ.c (.own 6)) (LQ.v intP (LQ.v intP (LQ.v intP (LQ.v intP (LQ.k (LQ.c (.own 7)) (LQ.k (LQ.c (.own 8)) (LQ.v zg (LQ.v zbc (LQ.v zg (LQ.v zbc (LQ.v zg (Par.q zbc))))))))))))))))))))))))))))))) (fun x=>(x.1,x.2.1,x.2.2.1,x.2.2.2.1,(⟨(d4 x).1,(d4 x).2.1,(d4 x).2.2.1,(d4 x).2.2.2.1,(d16 x).1,(d16 x).2.1⟩:Packet),(⟨(d8 x).1,(d8 x).2.1,(d8 x).2.2.1,(d8 x).2.2.2.1,(d16 x).2.2.1,(d16 x).2.2.2.1⟩:Packet),(⟨(d12 x).1,(d12 x).2.1,(d12 x).2.2.1,(d12 x).2.2.2.1,(d20 x).1,(d20 x).2⟩:Packet))) (fun y=>(y.1,y.2.1,y.2.2.1,y.2.2.2.1,(d4 y).1.Kind,(d4 y).1.Id,(d4 y).1.V,(d4 y).1.N,(d4 y).2.1.Kind,(d4 y).2.1.Id,(d4 y).2.1.V,(d4 y).2.1.N,(d4 y).2.2.Kind,(d4 y).2.2.Id,(d4 y).2.2.V,(d4 y).2.2.N,(d4 y).1.Set,(d4 y).1.Done,(d4 y).2.1.Set,(d4 y).2.1.Done,(d4 y).2.2.Set,(d4 y).2.2.Done)) (fun _=>rfl)) ⟨[0,2,4,5,6,7,10],[.nilcell 2 4 154 (.powers []),.nilcell 2 5 3 (.ints []),.nilcell 4 4 154 (.powers []),.nilcell 4 5 3 (.ints []),.nilcell 7 4 154 (.powers []),.nilcell 7 5 3 (.ints [])]⟩ [.cells 110 6,.cells 110 6,.cells 110 6,.rows 154,.rows 3,.rows 154,.rows 3,.rows 154,.rows 3]
def zaun:=EndD.mk (LQ.map (LQ.kp 0 0 (LQ.kp 1 0 (LQ.kp 2 0 (LQ.v intP (LQ.v intP (LQ.v intP (LQ.v intP (LQ.k (LQ.c (.own 3)) (LQ.k (LQ.c (.own 4)) (LQ.v intP (LQ.v intP (LQ.v intP (LQ.v intP (LQ.k (LQ.c (.own 5)) (LQ.k (LQ.c (.own 6)) (LQ.v intP (LQ.v intP (LQ.v intP (LQ.v intP (LQ.k (LQ.c (.own 7)) (LQ.k (LQ.c (.own 8)) (LQ.v zg (LQ.v zbc (LQ.v zg (LQ.v zbc (LQ.v zg (Par.q zbc))))))))))))))))))))))))))) (fun x=>((⟨x.1,x.2.1,x.2.2.1,x.2.2.2.1,(d12 x).1,(d12 x).2.1⟩:Packet),(⟨(d4 x).1,(d4 x).2.1,(d4 x).2.2.1,(d4 x).2.2.2.1,(d12 x).2.2.1,(d12 x).2.2.2.1⟩:Packet),(⟨(d8 x).1,(d8 x).2.1,(d8 x).2.2.1,(d8 x).2.2.2.1,(d16 x).1,(d16 x).2⟩:Packet))) (fun y=>(y.1.Kind,y.1.Id,y.1.V,y.1.N,y.2.1.Kind,y.2.1.Id,y.2.1.V,y.2.1.N,y.2.2.Kind,y.2.2.Id,y.2.2.V,y.2.2.N,y.1.Set,y.1.Done,y.2.1.Set,y.2.1.Done,y.2.2.Set,y.2.2.Done)) (fun _=>rfl)) ⟨[2,4,7],[.nilcell 2 4 154 (.powers []),.nilcell 2 5 3 (.ints []),.nilcell 4 4 154 (.powers []),.nilcell 4 5 3 (.ints []),.nilcell 7 4 154 (.powers []),.nilcell 7 5 3 (.ints [])]⟩ [.cells 110 6,.cells 110 6,.cells 110 6,.rows 154,.rows 3,.rows 154,.rows 3,.rows 154,.rows 3]
def zay8:St→Option LR:=L1 105 13 0 za6q (.exit 2) zaun (u7 zdm)
def zs130b:=sub (fb Tryz.f108) [0,1,0,1,1,1,1,1,1,1,1,1]
theorem za6r:zk (za1w).env 0 zs130b zay8 :=
 zb2 (A:=za6p) za1x fM trivial (k:=zab zs130b) (by kernel_rfl) rfl (by rintro ⟨x0,x1,x2,x3,x4,x5,x6⟩;kernel_rfl)
def zm1 (a0:ByteArray): Tr (Packet×Int) :=
 (.ite (decide (((a0.size:Nat):Int) < 17))
  (.leaf ((⟨0,0,0,0,[],[]⟩:Packet),1))
  (.guard ((0:Int)≤15∧15 < ((a0.size:Nat):Int))
  (.ite (decide (((a0.size:Nat):Int) < (IntKind.i64.wrap (17+(IntKind.i64.wrap (8*(IntKind.i64.wrap (((a0.data.toList.getD 15 0).toNat:Nat):Int))))))))
   (.leaf ((⟨0,0,0,0,[],[]⟩:Packet),1))
   (.guard ((0:Int)≤(IntKind.i64.wrap (16+(IntKind.i64.wrap (8*(IntKind.i64.wrap (((a0.data.toList.getD 15 0).toNat:Nat):Int))))))∧(IntKind.i64.wrap (16+(IntKind.i64.wrap (8*(IntKind.i64.wrap (((a0.data.toList.getD 15 0).toNat:Nat):Int)))))) < ((a0.size:Nat):Int))
   (.ite (((a0.size:Nat):Int) != (IntKind.i64.wrap ((IntKind.i64.wrap (17+(IntKind.i64.wrap (8*(IntKind.i64.wrap (((a0.data.toList.getD 15 0).toNat:Nat):Int))))))+(IntKind.i64.wrap (((a0.data.toList.getD (IntKind.i64.wrap (16+(IntKind.i64.wrap (8*(IntKind.i64.wrap (((a0.data.toList.getD 15 0).toNat:Nat):Int)))))).toNat 0).toNat:Nat):Int)))))
    (.leaf ((⟨0,0,0,0,[],[]⟩:Packet),1))
    (.guard ((0:Int)≤0∧0 < ((a0.size:Nat):Int))
    (.guard ((0:Int)≤1∧1≤(7:Int)∧7≤((a0.size:Nat):Int))
    (.guard ((zcp (a0.extract 1 7)).isSome=true)
    (.guard ((0:Int)≤7∧7 < ((a0.size:Nat):Int))
    (.guard ((0:Int)≤8∧8≤(15:Int)∧15≤((a0.size:Nat):Int))
    (.guard ((zcp (a0.extract 8 15)).isSome=true)
    (.bind (zie a0 (IntKind.i64.wrap (((a0.data.toList.getD 15 0).toNat:Nat):Int)) (IntKind.i64.wrap (((a0.data.toList.getD (IntKind.i64.wrap (16+(IntKind.i64.wrap (8*(IntKind.i64.wrap (((a0.data.toList.getD 15 0).toNat:Nat):Int)))))).toNat 0).toNat:Nat):Int)) 0 (⟨0,0,0,0,[],[]⟩:Packet) (⟨0,0,0,0,[],[]⟩:Packet) (⟨IntKind.i64.wrap (((a0.data.toList.getD 0 0).toNat:Nat):Int),((zcp (a0.extract 1 7)).getD default),IntKind.i64.wrap (((a0.data.toList.getD 7 0).toNat:Nat):Int),((zcp (a0.extract 8 15)).getD default),[],[]⟩:Packet)) fun v1 =>
    (.bind (zif v1.1 v1.2.1 v1.2.2.1 0 v1.2.2.2.1 v1.2.2.2.2.1 v1.2.2.2.2.2) fun v2 =>
    (.bind (zaw v2.2.2) fun v4 =>
    (.ite (v4 != 0)
     (.leaf (v2.2.1,v4))
     (.leaf (v2.2.2,0)))))))))))))))))
def zdc (a0:ByteArray):=(zm1 a0).run
def zm2:SpecT:=zm 0 (Par.q z43) 1 [] zm1 default (LQ.v (Par.ofLP zes) (Par.q intP)) 2 []
theorem zsn:ze Tryz.prog 108 (zm2).spec :=
 sK (A:=⟨[([0,1,0,1,1,1,1,1,1,1,1],zay7),([0,1,0,1,1,1,1,1,1,1,1,1],zay8)],[],[],za1v,[]⟩) za1x fM Tryz.func108 (c:=(fb Tryz.f108)) (by kernel_rfl) (Lc:=0) ⟨za6o,za6r,trivial⟩ _ _ 13 _ _ _ _ _ _ [.pubB 2] (by rintro a0;kernel_rfl)
def zqj (a0:Packet): Tr (Packet) :=
 (.guard ((0+Sl.len (.powers a0.Set))*16≤140737488355328)
 (.guard ((0+Sl.len (.ints a0.Done))*8≤140737488355328)
 (.leaf a0)))
def za6 (a0:Packet):=(zqj a0).run
def zho:SpecT:=zm 0 (Par.q (Par.ofLP zes)) 1 [] zqj default (Par.q (Par.ofLP zes)) 1 []
theorem zj5:ze Tryz.prog 101 (zho).spec :=
 sK (A:=⟨[],[],[],[[1,2],[1,2],[2]],[]⟩) zhN fM Tryz.func101 (c:=(fb Tryz.f101)) (by kernel_rfl) (Lc:=0) trivial _ _ 6 _ _ _ _ _ _ [.pubB 2] (by rintro a0;kernel_rfl)
end
