/-
  The functions, each by its tree.
-/
import Derived.Test.YtobfadhgiaphnaaGreatXAbC
import Derived.Test.YtobfadhgiaphnaaGreatXFLine
import Derived.Test.YtobfadhgiaphnaaGreatXFRatio
import Derived.Test.YtobfadhgiaphnaaGreatXFacts
namespace Go.Proofs.YtobfadhgiaphnaaGreat.Ab
open Go Go.RowKit
open Go.IntKind (i64 u64)
set_option maxRecDepth 100000
set_option linter.unusedVariables false
set_option linter.unusedSimpArgs false
noncomputable section
def zv46:List (List Nat):=[[0,1],[0,1,7,8,9],[0,1,7,8,9,10],[0,1,5,6,7,8,9],[0,1,7,8,9,47],[4],[0,1,7,8,9],[4]]
def zk1 (x0:(List Power)) (x1:Int) (x2:(List Power)) (x3 x4:Int): Tr (((List Power)×Int×(List Power)×Int×Int)⊕((Bool)⊕(Unit))) :=
 (.ite (decide (x4 < x3))
  (.guard ((0:Int)≤x4∧x4 < ((Sl.len (.powers x2):Nat):Int))
  (.guard (((decide (x4 > 0))=true→(((decide (((x2.getD x4.toNat default).V) < 0))||(decide (((x2.getD x4.toNat default).V)≥6)))=false→((0:Int)≤(i64.wrap (x4 - 1))∧(i64.wrap (x4 - 1)) < ((Sl.len (.powers x0):Nat):Int))∧True)))
  (.ite (((((decide (((x2.getD x4.toNat default).V) < 0))||(decide (((x2.getD x4.toNat default).V)≥6)))||((decide (x4 > 0))&&(decide (((x0.getD ((i64.wrap (x4 - 1)).toNat) default).V)≥((x2.getD x4.toNat default).V)))))||(decide (((x2.getD x4.toNat default).N) < x1)))||(decide (((x2.getD x4.toNat default).N) > 1125899906842624)))
   (.leaf (.inr (.inl false)))
   (.leaf (.inl (x0,x1,x2,x3,i64.wrap (x4+1)))))))
  (.leaf (.inr (.inr ()))))
def zvy (x0:(List Power)) (x1:Int) (x2:(List Power)) (x3 x4:Int):=zbl (fun s:(List Power)×Int×(List Power)×Int×Int=>(zk1 s.1 s.2.1 s.2.2.1 s.2.2.2.1 s.2.2.2.2).run) (x0,x1,x2,x3,x4)
def zbjw:Ann:=⟨[],[],[],zv46,[]⟩
def zbjx:=EndD.mk (LQ.v zf (LQ.v intP (LQ.v zf (LQ.v intP (Par.q intP))))) ⟨[0,1,7,8,9],[.pub 0,.nilsl 0 (.powers []),.pub 7,.nilsl 7 (.powers [])]⟩ []
def za4u:=EndD.mk (Par.q boolP) ⟨[4],[]⟩ []
def za4v:EndD (Unit):=⟨LQ.nil,⟨[],[]⟩,[]⟩
def za90:St→Option LR:=L2 49 3 0 zbjx .ret za4u (.exit 0) za4v (u5 zk1)
def zs46a:=sub (fb Tryz.f152) [0,1,0,1]
theorem zbjy:zk (zyN).env 0 zs46a za90 :=
 zgs (A:=zbjw) zhN fM trivial (k:=z8 zs46a) (by kernel_rfl) rfl rfl (by rintro ⟨x0,x1,x2,x3,x4⟩;kernel_rfl)
def zw5 (a0:(List Power)) (a1:Int): Tr (Bool) :=
 (.two (zvy a0 a1 a0 ((a0.length:Nat):Int) 0) (fun v1 =>
  (.leaf v1)) (fun v2 =>
  (.leaf true)))
def zt2 (a0:(List Power)) (a1:Int):=(zw5 a0 a1).run
def z4g:SpecT:=zn 0 (LQ.v zf (Par.q intP)) 2 [] (u2 zw5) default (Par.q boolP) 1 []
theorem zac3:ze Tryz.prog 152 (z4g).spec :=
 sK (A:=⟨[([0,1,0,1],za90)],[],[],zv46,[]⟩) zhN fM Tryz.func152 (c:=(fb Tryz.f152)) (by kernel_rfl) (Lc:=0) ⟨zbjy,trivial⟩ _ _ 3 _ _ _ _ _ _ [] (by rintro ⟨a0,a1⟩;kernel_rfl)
def zv47:List (List Nat):=[[1],[1,5],[2],[1,14],[2],[1,23],[2],[1,47],[2],[1,76],[2],[1,82,83,84],[1,82,83,84,85],[1,3,4,82,83,84],[1,82,83,84,108],[2],[1,82,83,84],[2]]
noncomputable def zy47:EnvT:=⟨Tryz.prog,zw [(152,z4g)]⟩
theorem zh47:(zy47).Ok:=zd ⟨zac3,trivial⟩
def zn0 (x0:(List Int)) (x1 x2:Int) (x3:Packet): Tr (((List Int)×Int×Int×Packet)⊕((Int)⊕(Unit))) :=
 (.ite (decide (x2 < x1))
  (.guard ((0:Int)≤x2∧x2 < ((Sl.len (.ints x0):Nat):Int))
  (.guard (((decide (x2 > 0))=true→(((decide ((x0.getD x2.toNat 0) < 0))||(decide ((x0.getD x2.toNat 0)≥6)))=false→((0:Int)≤(i64.wrap (x2 - 1))∧(i64.wrap (x2 - 1)) < ((Sl.len (.ints x3.Done):Nat):Int))∧True)))
  (.ite (((decide ((x0.getD x2.toNat 0) < 0))||(decide ((x0.getD x2.toNat 0)≥6)))||((decide (x2 > 0))&&(decide ((x3.Done.getD ((i64.wrap (x2 - 1)).toNat) 0)≥(x0.getD x2.toNat 0)))))
   (.leaf (.inr (.inl 2)))
   (.leaf (.inl (x0,x1,i64.wrap (x2+1),x3))))))
  (.leaf (.inr (.inr ()))))
def z0q (x0:(List Int)) (x1 x2:Int) (x3:Packet):=zbl (fun s:(List Int)×Int×Int×Packet=>(zn0 s.1 s.2.1 s.2.2.1 s.2.2.2).run) (x0,x1,x2,x3)
def zbjz:Ann:=⟨[],[],[],zv47,[]⟩
def zbj0:=EndD.mk (LQ.kp 0 0 (LQ.v za7 (LQ.v intP (LQ.v intP (LP.q zdr))))) ⟨[1,82,83,84],[.pub 82,.nilsl 82 (.ints [])]⟩ [.cells 110 6]
def za4w:=EndD.mk (Par.q intP) ⟨[2],[]⟩ []
def za4x:EndD (Unit):=⟨LQ.nil,⟨[],[]⟩,[]⟩
def za91:St→Option LR:=L2 110 3 0 zbj0 .ret za4w (.exit 1) za4x (u4 zn0)
def zs47a:=sub (fb Tryz.f114) [0,1,0,1,1]
theorem zbj1:zk (zy47).env 0 zs47a za91 :=
 zgs (A:=zbjz) zh47 fM trivial (k:=z8 zs47a) (by kernel_rfl) rfl rfl (by rintro ⟨x0,x1,x2,x3⟩;kernel_rfl)
def z12 (a0:Packet): Tr (Int) :=
 (.ite ((decide (a0.Kind < 1))||(decide (a0.Kind > 4)))
  (.leaf 3)
  (.ite ((decide (a0.Id < 1))||(decide (a0.Id > 1099511627776)))
   (.leaf 2)
   (.ite ((decide (a0.Kind≥3))&&((((decide (a0.V < 0))||(decide (a0.V≥6)))||(decide (a0.N < 1)))||(decide (a0.N > 1125899906842624))))
    (.leaf 2)
    (.ite (((decide (a0.Kind≤2))&&((a0.V != 0)||(a0.N != 0)))||((a0.Kind != 1)&&(decide ((i64.wrap (((a0.Set.length:Nat):Int)+((a0.Done.length:Nat):Int))) > 0))))
     (.leaf 1)
     (.bind (zt2 a0.Set 0) fun v1 =>
     (.ite (!v1)
      (.leaf 2)
      (.two (z0q a0.Done ((a0.Done.length:Nat):Int) 0 a0) (fun v2 =>
       (.leaf v2)) (fun v3 =>
       (.leaf 0)))))))))
def zhy (a0:Packet):=(z12 a0).run
def zqz:SpecT:=zn 0 (Par.q (Par.ofLP zdr)) 1 [] z12 default (Par.q intP) 1 []
theorem ztb:ze Tryz.prog 114 (zqz).spec :=
 sK (A:=⟨[([0,1,0,1,1],za91)],[],[],zv47,[]⟩) zh47 fM Tryz.func114 (c:=(fb Tryz.f114)) (by kernel_rfl) (Lc:=0) ⟨zbj1,trivial⟩ _ _ 3 _ _ _ _ _ _ [] (by rintro a0;kernel_rfl)
def zv48:List (List Nat):=[[0,1,2],[0,1,7],[0,1,7,11],[0,1,7],[0,1,7],[6]]
def zql (x0 x1:Int) (x2:(List UInt8)): Tr ((Int×Int×(List UInt8))⊕((List UInt8))) :=
 (.ite (decide (x1≥0))
  (.guard ((0:Int)≤(u64.wrap (i64.wrap (8*x1))))
  (.guard (0≤(IntKind.u8.wrap (Int.fdiv x0 (2 ^ (min (u64.wrap (i64.wrap (8*x1))).toNat 64))))∧(IntKind.u8.wrap (Int.fdiv x0 (2 ^ (min (u64.wrap (i64.wrap (8*x1))).toNat 64)))) < 256)
  (.guard ((Sl.len (.bytes x2)+Sl.len (.bytes [UInt8.ofNat (IntKind.u8.wrap (Int.fdiv x0 (2 ^ (min (u64.wrap (i64.wrap (8*x1))).toNat 64)))).toNat]))*1≤140737488355328)
  (.leaf (.inl (x0,i64.wrap (x1 - 1),x2++[UInt8.ofNat (IntKind.u8.wrap (Int.fdiv x0 (2 ^ (min (u64.wrap (i64.wrap (8*x1))).toNat 64)))).toNat]))))))
  (.leaf (.inr x2)))
def zt3 (x0 x1:Int) (x2:(List UInt8)):=zbl (fun s:Int×Int×(List UInt8)=>(zql s.1 s.2.1 s.2.2).run) (x0,x1,x2)
def zbj2:Ann:=⟨[],[],[],zv48,[]⟩
def zbj3:=EndD.mk (LQ.k (LQ.c (.own 0)) (LQ.v intP (LQ.v intP (Par.q z4a)))) ⟨[0,1,7],[.nilown 0 5 (.bytes [])]⟩ [.rows 5]
def za4y:=EndD.mk (LQ.k (LQ.c (.own 0)) (Par.q z4a)) ⟨[0],[.nilown 0 5 (.bytes [])]⟩ [.rows 5]
def za92:St→Option LR:=L1 24 5 0 zbj3 (.exit 0) za4y (u3 zql)
def zs48a:=sub (fb Tryz.f198) [0,1,0,1]
theorem zbj4:zk (zyN).env 0 zs48a za92 :=
 zb5 (A:=zbj2) zhN fM trivial (k:=z8 zs48a) (by kernel_rfl) rfl (by rintro ⟨x0,x1,x2⟩;kernel_rfl)
def z5t (a0 a1:Int) (a2:(List UInt8)): Tr ((List UInt8)) :=
 (.bind (zt3 a0 (i64.wrap (a1 - 1)) a2) fun v1 =>
 (.leaf v1))
def zu (a0 a1:Int) (a2:(List UInt8)):=(z5t a0 a1 a2).run
def zac4:SpecT:=zn 0 (LQ.k (LQ.c (.own 0)) (LQ.v intP (LQ.v intP (Par.q z4a)))) 3 [.rows 5] (u3 z5t) default (LQ.k (LQ.c (.own 0)) (Par.q z4a)) 1 [.rows 5]
theorem zakn:ze Tryz.prog 198 (zac4).spec :=
 sK (A:=⟨[([0,1,0,1],za92)],[],[],zv48,[]⟩) zhN fM Tryz.func198 (c:=(fb Tryz.f198)) (by kernel_rfl) (Lc:=0) ⟨zbj4,trivial⟩ _ _ 5 _ _ _ _ _ _ [.nilown 6 5 (.bytes [])] (by rintro ⟨a0,a1,a2⟩;kernel_rfl)
def zv49:List (List Nat):=[[1],[1,4],[1,4,13],[2,3],[1,5],[1,5],[1,5,34,35,36],[1,5,34,35,36,37],[1,5,7,34,35,36],[1,5,34,35,36],[1,5,34,35,36],[1,5],[5,54,55,56],[5,54,55,56,57],[5,9,54,55,56],[5,54,55,56],[5,54,55,56],[2,3]]
noncomputable def zy49:EnvT:=⟨Tryz.prog,zw [(114,zqz),(198,zac4)]⟩
theorem zh49:(zy49).Ok:=zd ⟨ztb,zakn,trivial⟩
def zk2 (x0:(List Power)) (x1 x2:Int) (x3:Packet) (x4:(List UInt8)): Tr (((List Power)×Int×Int×Packet×(List UInt8))⊕(Packet×(List UInt8))) :=
 (.ite (decide (x2 < x1))
  (.guard ((0:Int)≤x2∧x2 < ((Sl.len (.powers x0):Nat):Int))
  (.guard ((zu ((x0.getD x2.toNat default).V) 1 x4).isSome=true)
  (.guard ((zu ((x0.getD x2.toNat default).N) 7 ((zu ((x0.getD x2.toNat default).V) 1 x4).getD default)).isSome=true)
  (.leaf (.inl (x0,x1,i64.wrap (x2+1),x3,((zu ((x0.getD x2.toNat default).N) 7 ((zu ((x0.getD x2.toNat default).V) 1 x4).getD default)).getD default)))))))
  (.leaf (.inr (x3,x4))))
def zn1 (x0:(List Power)) (x1 x2:Int) (x3:Packet) (x4:(List UInt8)):=zbl (fun s:(List Power)×Int×Int×Packet×(List UInt8)=>(zk2 s.1 s.2.1 s.2.2.1 s.2.2.2.1 s.2.2.2.2).run) (x0,x1,x2,x3,x4)
def zbj8:Ann:=⟨[],[],[],zv49,[]⟩
def zbj9:=EndD.mk (LQ.kp 0 0 (LQ.k (LQ.c (.own 1)) (LQ.v zf (LQ.v intP (LQ.v intP (LQ.seq (LP.q zdr) (Par.q z4a))))))) ⟨[1,5,34,35,36],[.nilown 5 5 (.bytes []),.pub 34,.nilsl 34 (.powers [])]⟩ [.cells 110 6,.rows 5]
def za4z:=EndD.mk (LQ.kp 0 0 (LQ.k (LQ.c (.own 1)) (LQ.seq (LP.q zdr) (Par.q z4a)))) ⟨[1,5],[.nilown 5 5 (.bytes [])]⟩ [.cells 110 6,.rows 5]
def za93:St→Option LR:=L1 66 8 0 zbj9 (.exit 0) za4z (u5 zk2)
def zs49a:=sub (fb Tryz.f173) [0,1,0,1,1,1,1]
theorem zbka:zk (zy49).env 0 zs49a za93 :=
 zb5 (A:=zbj8) zh49 fM trivial (k:=z8 zs49a) (by kernel_rfl) rfl (by rintro ⟨x0,x1,x2,x3,x4⟩;kernel_rfl)
def zk3 (x0:(List Int)) (x1 x2:Int) (x3:(List UInt8)): Tr (((List Int)×Int×Int×(List UInt8))⊕((List UInt8))) :=
 (.ite (decide (x2 < x1))
  (.guard ((0:Int)≤x2∧x2 < ((Sl.len (.ints x0):Nat):Int))
  (.bind (zu (x0.getD x2.toNat 0) 1 x3) fun v4 =>
  (.leaf (.inl (x0,x1,i64.wrap (x2+1),v4)))))
  (.leaf (.inr x3)))
def zn2 (x0:(List Int)) (x1 x2:Int) (x3:(List UInt8)):=zbl (fun s:(List Int)×Int×Int×(List UInt8)=>(zk3 s.1 s.2.1 s.2.2.1 s.2.2.2).run) (x0,x1,x2,x3)
def zbkb:Ann:=⟨[],[],[],zv49,[]⟩
def zbkc:=EndD.mk (LQ.k (LQ.c (.own 0)) (LQ.v za7 (LQ.v intP (LQ.v intP (Par.q z4a))))) ⟨[5,54,55,56],[.nilown 5 5 (.bytes []),.pub 54,.nilsl 54 (.ints [])]⟩ [.rows 5]
def za40:=EndD.mk (LQ.k (LQ.c (.own 0)) (Par.q z4a)) ⟨[5],[.nilown 5 5 (.bytes [])]⟩ [.rows 5]
def za94:St→Option LR:=L1 66 8 0 zbkc (.exit 2) za40 (u4 zk3)
def zs49b:=sub (fb Tryz.f173) [0,1,0,1,1,1,1,1,1]
theorem zbkd:zk (zy49).env 0 zs49b za94 :=
 zb5 (A:=zbkb) zh49 fM trivial (k:=z8 zs49b) (by kernel_rfl) rfl (by rintro ⟨x0,x1,x2,x3⟩;kernel_rfl)
def zw6 (a0:Packet): Tr (ByteArray×Int) :=
 (.bind (zhy a0) fun v1 =>
 (.ite (v1 != 0)
  (.leaf ((⟨#[]⟩:ByteArray),v1))
  (.guard (0≤(IntKind.u8.wrap a0.Kind)∧(IntKind.u8.wrap a0.Kind) < 256)
  (.guard ((zu a0.Id 6 [UInt8.ofNat (IntKind.u8.wrap a0.Kind).toNat]).isSome=true)
  (.guard ((zu a0.V 1 ((zu a0.Id 6 [UInt8.ofNat (IntKind.u8.wrap a0.Kind).toNat]).getD default)).isSome=true)
  (.guard ((zu a0.N 7 ((zu a0.V 1 ((zu a0.Id 6 [UInt8.ofNat (IntKind.u8.wrap a0.Kind).toNat]).getD default)).getD default)).isSome=true)
  (.guard ((zu ((a0.Set.length:Nat):Int) 1 ((zu a0.N 7 ((zu a0.V 1 ((zu a0.Id 6 [UInt8.ofNat (IntKind.u8.wrap a0.Kind).toNat]).getD default)).getD default)).getD default)).isSome=true)
  (.bind (zn1 a0.Set ((a0.Set.length:Nat):Int) 0 a0 ((zu ((a0.Set.length:Nat):Int) 1 ((zu a0.N 7 ((zu a0.V 1 ((zu a0.Id 6 [UInt8.ofNat (IntKind.u8.wrap a0.Kind).toNat]).getD default)).getD default)).getD default)).getD default)) fun v2 =>
  (.bind (zu ((v2.1.Done.length:Nat):Int) 1 v2.2) fun v3 =>
  (.bind (zn2 v2.1.Done ((v2.1.Done.length:Nat):Int) 0 v3) fun v5 =>
  (.leaf ((⟨v5.toArray⟩:ByteArray),0))))))))))))
def zb9 (a0:Packet):=(zw6 a0).run
def zqm:SpecT:=zn 0 (Par.q (Par.ofLP zdr)) 1 [] zw6 default (LQ.v z67 (Par.q intP)) 2 []
theorem zt4:ze Tryz.prog 173 (zqm).spec :=
 sK (A:=⟨[([0,1,0,1,1,1,1],za93),([0,1,0,1,1,1,1,1,1],za94)],[],[],zv49,[]⟩) zh49 fM Tryz.func173 (c:=(fb Tryz.f173)) (by kernel_rfl) (Lc:=0) ⟨zbka,zbkd,trivial⟩ _ _ 8 _ _ _ _ _ _ [] (by rintro a0;kernel_rfl)
def zv50:List (List Nat):=[[0,1],[0,1,14],[],[4],[0,1,5],[0,1,5,27,28,29],[0,1,5,27,28,29,30],[0,1,5,7,27,28,29],[0,1,5,27,28,29],[0,1,5,27,28,29],[5],[4]]
def zcz (x0 x1:Int) (x2:(List UInt8)) (x3 x4:Int) (x5:zgx): Tr ((Int×Int×(List UInt8)×Int×Int×zgx)⊕(Int×Int×zgx)) :=
 (.ite (decide (x4 < x3))
  (.guard ((0:Int)≤x4∧x4 < ((Sl.len (.bytes x2):Nat):Int))
  (.guard ((0:Int)≤8)
  (.leaf (.inl (x0,i64.wrap (((BitVec.ofInt 64 (i64.wrap (x1*2 ^ 8)) ||| BitVec.ofInt 64 (i64.wrap (((x2.getD x4.toNat 0).toNat:Nat):Int))).toNat:Nat):Int),x2,x3,i64.wrap (x4+1),x5)))))
  (.leaf (.inr (x0,x1,x5))))
def zg3 (x0 x1:Int) (x2:(List UInt8)) (x3 x4:Int) (x5:zgx):=zbl (fun s:Int×Int×(List UInt8)×Int×Int×zgx=>(zcz s.1 s.2.1 s.2.2.1 s.2.2.2.1 s.2.2.2.2.1 s.2.2.2.2.2).run) (x0,x1,x2,x3,x4,x5)
def zbke:Ann:=⟨[],[],[],zv50,[]⟩
def zbkf:=EndD.mk (LQ.kp 0 0 (LQ.v intP (LQ.v intP (LQ.v z4a (LQ.v intP (LQ.v intP (LP.q z99))))))) ⟨[0,1,5,27,28,29],[.pub 27,.nilsl 27 (.bytes [])]⟩ [.cells 237 2]
def za41:=EndD.mk (LQ.kp 0 0 (LQ.v intP (LQ.v intP (LP.q z99)))) ⟨[0,1,5],[]⟩ [.cells 237 2]
def za95:St→Option LR:=L1 49 3 1 zbkf (.exit 0) za41 (u6 zcz)
def zs50a:=sub (fb Tryz.f201) [0,1,0,1,1,1]
theorem zbkg:zk (zyN).env 1 zs50a za95 :=
 zb5 (A:=zbke) zhN fM trivial (k:=z8 zs50a) (by kernel_rfl) rfl (by rintro ⟨x0,x1,x2,x3,x4,x5⟩;kernel_rfl)
def zli (a0:Int) (a1:zgx): Tr (Int×zgx) :=
 (.ite (decide (a0 > ((a1.s.size:Nat):Int)))
  (.leaf (0,(⟨(⟨#[]⟩:ByteArray),true⟩:zgx)))
  (.guard ((0:Int)≤0∧0≤(a0:Int)∧a0≤((a1.s.size:Nat):Int))
  (.guard ((a1.s.extract 0 a0.toNat).size≤9223372036854775807)
  (.bind (zg3 a0 0 ((a1.s.extract 0 a0.toNat).data.toList) ((((a1.s.extract 0 a0.toNat).data.toList).length:Nat):Int) 0 a1) fun v1 =>
  (.guard ((0:Int)≤v1.1∧v1.1≤(((v1.2.2.s.size:Nat):Int):Int)∧((v1.2.2.s.size:Nat):Int)≤((v1.2.2.s.size:Nat):Int))
  (.leaf (v1.2.1,(⟨v1.2.2.s.extract v1.1.toNat v1.2.2.s.size,v1.2.2.bad⟩:zgx))))))))
def zh (a0:Int) (a1:zgx):=(zli a0 a1).run
def zsk:SpecT:=zn 1 (LQ.kp 0 0 (LQ.v intP (LP.q z99))) 2 [.cells 237 2] (u2 zli) default (LQ.v intP (LP.q z99)) 1 [.cells 237 2]
theorem z13:ze Tryz.prog 201 (zsk).spec :=
 sK (A:=⟨[([0,1,0,1,1,1],za95)],[],[],zv50,[]⟩) zhN fM Tryz.func201 (c:=(fb Tryz.f201)) (by kernel_rfl) (Lc:=1) ⟨zbkg,trivial⟩ _ _ 3 _ _ _ _ _ _ [] (by rintro ⟨a0,a1⟩;kernel_rfl)
def zv51:List (List Nat):=[[0,2],[2,4],[2,4,5],[2,4,5,6],[2,4,5,6,32],[2,4,5,6],[2,4,5,6,7],[2,4,5,6],[2,4,5,8],[2,4,5,8,56],[2,4,5,8],[2,4,5,8],[2,5,76],[2,3],[2,5,9],[2,5,9,81],[2,3],[2,3]]
noncomputable def zy51:EnvT:=⟨Tryz.prog,zw [(201,zsk),(114,zqz)]⟩
theorem zh51:(zy51).Ok:=zd ⟨z13,ztb,trivial⟩
def zg4 (x0:Int) (x1:Packet) (x2:zgx) (x3:Packet): Tr ((Int×Packet×zgx×Packet)⊕(Packet×zgx×Packet)) :=
 (.ite ((decide (x0 > 0))&&(!x2.bad))
  (.bind (zh 1 x2) fun v6 =>
  (.guard ((zh 7 v6.2).isSome=true)
  (.guard ((Sl.len (.powers x3.Set)+Sl.len (.powers [(⟨v6.1,((zh 7 v6.2).getD default).1⟩:Power)]))*16≤140737488355328)
  (.leaf (.inl (i64.wrap (x0 - 1),x1,(((zh 7 v6.2).getD default).2),{ x3 with Set:=x3.Set++[(⟨v6.1,((zh 7 v6.2).getD default).1⟩:Power)] }))))))
  (.leaf (.inr (x1,x2,x3))))
def zbh (x0:Int) (x1:Packet) (x2:zgx) (x3:Packet):=zbl (fun s:Int×Packet×zgx×Packet=>(zg4 s.1 s.2.1 s.2.2.1 s.2.2.2).run) (x0,x1,x2,x3)
def zbkk:Ann:=⟨[],[],[],zv51,[]⟩
def zbkl:=EndD.mk (LQ.map (LQ.kp 0 0 (LQ.kp 1 0 (LQ.kp 2 0 (LQ.v intP (LQ.v intP (LQ.v intP (LQ.v intP (LQ.v intP (LQ.k (LQ.c (.own 3)) (LQ.k (LQ.c (.own 4)) (LQ.seq (LP.q z99) (LQ.v intP (LQ.v intP (LQ.v intP (LQ.v intP (LQ.k (LQ.c (.own 5)) (LQ.k (LQ.c (.own 6)) (LQ.v zf (LQ.v za7 (LQ.v zf (Par.q za7))))))))))))))))))))) (fun x=>(x.1,(⟨x.2.1,x.2.2.1,x.2.2.2.1,(d4 x).1,(d8 x).2.2.1,(d8 x).2.2.2.1⟩:Packet),(d4 x).2.1,(⟨(d4 x).2.2.1,(d4 x).2.2.2.1,(d8 x).1,(d8 x).2.1,(d12 x).1,(d12 x).2⟩:Packet))) (fun y=>(y.1,y.2.1.Kind,y.2.1.Id,y.2.1.V,y.2.1.N,y.2.2.1,y.2.2.2.Kind,y.2.2.2.Id,y.2.2.2.V,y.2.2.2.N,y.2.1.Set,y.2.1.Done,y.2.2.2.Set,y.2.2.2.Done)) (fun _=>rfl)) ⟨[2,4,5,6],[.nilcell 2 4 154 (.powers []),.nilcell 2 5 3 (.ints []),.nilcell 5 4 154 (.powers []),.nilcell 5 5 3 (.ints [])]⟩ [.cells 110 6,.cells 237 2,.cells 110 6,.rows 154,.rows 3,.rows 154,.rows 3]
def za42:=EndD.mk (LQ.map (LQ.kp 0 0 (LQ.kp 1 0 (LQ.kp 2 0 (LQ.v intP (LQ.v intP (LQ.v intP (LQ.v intP (LQ.k (LQ.c (.own 3)) (LQ.k (LQ.c (.own 4)) (LQ.seq (LP.q z99) (LQ.v intP (LQ.v intP (LQ.v intP (LQ.v intP (LQ.k (LQ.c (.own 5)) (LQ.k (LQ.c (.own 6)) (LQ.v zf (LQ.v za7 (LQ.v zf (Par.q za7)))))))))))))))))))) (fun x=>((⟨x.1,x.2.1,x.2.2.1,x.2.2.2.1,(d8 x).2.1,(d8 x).2.2.1⟩:Packet),(d4 x).1,(⟨(d4 x).2.1,(d4 x).2.2.1,(d4 x).2.2.2.1,(d8 x).1,(d8 x).2.2.2.1,(d12 x)⟩:Packet))) (fun y=>(y.1.Kind,y.1.Id,y.1.V,y.1.N,y.2.1,y.2.2.Kind,y.2.2.Id,y.2.2.V,y.2.2.N,y.1.Set,y.1.Done,y.2.2.Set,y.2.2.Done)) (fun _=>rfl)) ⟨[2,4,5],[.nilcell 2 4 154 (.powers []),.nilcell 2 5 3 (.ints []),.nilcell 5 4 154 (.powers []),.nilcell 5 5 3 (.ints [])]⟩ [.cells 110 6,.cells 237 2,.cells 110 6,.rows 154,.rows 3,.rows 154,.rows 3]
def za96:St→Option LR:=L1 85 11 0 zbkl (.exit 0) za42 (u4 zg4)
def zs51a:=sub (fb Tryz.f178) [0,1,0,1,1,1]
theorem zbkm:zk (zy51).env 0 zs51a za96 :=
 zb5 (A:=zbkk) zh51 fM trivial (k:=z8 zs51a) (by kernel_rfl) rfl (by rintro ⟨x0,x1,x2,x3⟩;kernel_rfl)
def zg5 (x0:Int) (x1:Packet) (x2:zgx) (x3:Packet): Tr ((Int×Packet×zgx×Packet)⊕(Packet×zgx×Packet)) :=
 (.ite ((decide (x0 > 0))&&(!x2.bad))
  (.guard ((zh 1 x2).isSome=true)
  (.guard ((Sl.len (.ints x3.Done)+Sl.len (.ints [((zh 1 x2).getD default).1]))*8≤140737488355328)
  (.leaf (.inl (i64.wrap (x0 - 1),x1,(((zh 1 x2).getD default).2),{ x3 with Done:=x3.Done++[((zh 1 x2).getD default).1] })))))
  (.leaf (.inr (x1,x2,x3))))
def zbi (x0:Int) (x1:Packet) (x2:zgx) (x3:Packet):=zbl (fun s:Int×Packet×zgx×Packet=>(zg5 s.1 s.2.1 s.2.2.1 s.2.2.2).run) (x0,x1,x2,x3)
def zbkn:Ann:=⟨[],[],[],zv51,[]⟩
def zbko:=EndD.mk (LQ.map (LQ.kp 0 0 (LQ.kp 1 0 (LQ.kp 2 0 (LQ.v intP (LQ.v intP (LQ.v intP (LQ.v intP (LQ.v intP (LQ.k (LQ.c (.own 3)) (LQ.k (LQ.c (.own 4)) (LQ.seq (LP.q z99) (LQ.v intP (LQ.v intP (LQ.v intP (LQ.v intP (LQ.k (LQ.c (.own 5)) (LQ.k (LQ.c (.own 6)) (LQ.v zf (LQ.v za7 (LQ.v zf (Par.q za7))))))))))))))))))))) (fun x=>(x.1,(⟨x.2.1,x.2.2.1,x.2.2.2.1,(d4 x).1,(d8 x).2.2.1,(d8 x).2.2.2.1⟩:Packet),(d4 x).2.1,(⟨(d4 x).2.2.1,(d4 x).2.2.2.1,(d8 x).1,(d8 x).2.1,(d12 x).1,(d12 x).2⟩:Packet))) (fun y=>(y.1,y.2.1.Kind,y.2.1.Id,y.2.1.V,y.2.1.N,y.2.2.1,y.2.2.2.Kind,y.2.2.2.Id,y.2.2.2.V,y.2.2.2.N,y.2.1.Set,y.2.1.Done,y.2.2.2.Set,y.2.2.2.Done)) (fun _=>rfl)) ⟨[2,4,5,8],[.nilcell 2 4 154 (.powers []),.nilcell 2 5 3 (.ints []),.nilcell 5 4 154 (.powers []),.nilcell 5 5 3 (.ints [])]⟩ [.cells 110 6,.cells 237 2,.cells 110 6,.rows 154,.rows 3,.rows 154,.rows 3]
def za43:=EndD.mk (LQ.map (LQ.kp 0 0 (LQ.kp 1 0 (LQ.kp 2 0 (LQ.v intP (LQ.v intP (LQ.v intP (LQ.v intP (LQ.k (LQ.c (.own 3)) (LQ.k (LQ.c (.own 4)) (LQ.seq (LP.q z99) (LQ.v intP (LQ.v intP (LQ.v intP (LQ.v intP (LQ.k (LQ.c (.own 5)) (LQ.k (LQ.c (.own 6)) (LQ.v zf (LQ.v za7 (LQ.v zf (Par.q za7)))))))))))))))))))) (fun x=>((⟨x.1,x.2.1,x.2.2.1,x.2.2.2.1,(d8 x).2.1,(d8 x).2.2.1⟩:Packet),(d4 x).1,(⟨(d4 x).2.1,(d4 x).2.2.1,(d4 x).2.2.2.1,(d8 x).1,(d8 x).2.2.2.1,(d12 x)⟩:Packet))) (fun y=>(y.1.Kind,y.1.Id,y.1.V,y.1.N,y.2.1,y.2.2.Kind,y.2.2.Id,y.2.2.V,y.2.2.N,y.1.Set,y.1.Done,y.2.2.Set,y.2.2.Done)) (fun _=>rfl)) ⟨[2,4,5],[.nilcell 2 4 154 (.powers []),.nilcell 2 5 3 (.ints []),.nilcell 5 4 154 (.powers []),.nilcell 5 5 3 (.ints [])]⟩ [.cells 110 6,.cells 237 2,.cells 110 6,.rows 154,.rows 3,.rows 154,.rows 3]
def za97:St→Option LR:=L1 85 11 0 zbko (.exit 2) za43 (u4 zg5)
def zs51b:=sub (fb Tryz.f178) [0,1,0,1,1,1,1]
theorem zbkp:zk (zy51).env 0 zs51b za97 :=
 zb5 (A:=zbkn) zh51 fM trivial (k:=z8 zs51b) (by kernel_rfl) rfl (by rintro ⟨x0,x1,x2,x3⟩;kernel_rfl)
def zw7 (a0:ByteArray): Tr (Packet×Int) :=
 (.bind (zh 1 (⟨a0,false⟩:zgx)) fun v1 =>
 (.bind (zh 6 v1.2) fun v2 =>
 (.bind (zh 1 v2.2) fun v3 =>
 (.bind (zh 7 v3.2) fun v4 =>
 (.bind (zh 1 v4.2) fun v5 =>
 (.bind (zbh v5.1 (⟨0,0,0,0,[],[]⟩:Packet) v5.2 (⟨v1.1,v2.1,v3.1,v4.1,[],[]⟩:Packet)) fun v7 =>
 (.bind (zh 1 v7.2.1) fun v8 =>
 (.bind (zbi v8.1 v7.1 v8.2 v7.2.2) fun v9 =>
 (.ite (v9.2.1.bad||(!(v9.2.1.s.toList==(⟨#[]⟩:ByteArray).toList)))
  (.leaf ((⟨0,0,0,0,[],[]⟩:Packet),1))
  (.bind (zhy v9.2.2) fun v11 =>
  (.ite (v11 != 0)
   (.leaf ((⟨0,0,0,0,[],[]⟩:Packet),v11))
   (.leaf (v9.2.2,0)))))))))))))
def zg6 (a0:ByteArray):=(zw7 a0).run
def zw8:SpecT:=zn 0 (Par.q z67) 1 [] zw7 default (LQ.v (Par.ofLP zdr) (Par.q intP)) 2 []
theorem z14:ze Tryz.prog 178 (zw8).spec :=
 sK (A:=⟨[([0,1,0,1,1,1],za96),([0,1,0,1,1,1,1],za97)],[],[],zv51,[]⟩) zh51 fM Tryz.func178 (c:=(fb Tryz.f178)) (by kernel_rfl) (Lc:=0) ⟨zbkm,zbkp,trivial⟩ _ _ 11 _ _ _ _ _ _ [.pubB 2] (by rintro a0;kernel_rfl)
def za44:List (List Nat):=[[1],[1,16],[2],[1,3],[1,3,55],[2],[1,84],[2],[1,4],[1,4,86,87,88],[1,4,86,87,88,89],[1,4,6,86,87,88],[1,6,86,87,88,110],[2],[1,4,86,87,88],[1,4,86,87,88],[1,4],[4,115,116,117],[4,115,116,117,118],[4,8,115,116,117],[8,115,116,117,127],[2],[4,115,116,117],[4,115,116,117],[2]]
def zhz (x0:Int) (x1:(List Power)) (x2 x3:Int) (x4:Packet): Tr ((Int×(List Power)×Int×Int×Packet)⊕((Int)⊕(Packet))) :=
 (.ite (decide (x3 < x2))
  (.guard ((0:Int)≤x3∧x3 < ((Sl.len (.powers x1):Nat):Int))
  (.ite ((((decide (((x1.getD x3.toNat default).V)≤x0))||(decide (((x1.getD x3.toNat default).V) > 5)))||(decide (((x1.getD x3.toNat default).N) < 0)))||(decide (((x1.getD x3.toNat default).N) > 1125899906842624)))
   (.leaf (.inr (.inl 2)))
   (.leaf (.inl ((x1.getD x3.toNat default).V,x1,x2,i64.wrap (x3+1),x4)))))
  (.leaf (.inr (.inr x4))))
def zsl (x0:Int) (x1:(List Power)) (x2 x3:Int) (x4:Packet):=zbl (fun s:Int×(List Power)×Int×Int×Packet=>(zhz s.1 s.2.1 s.2.2.1 s.2.2.2.1 s.2.2.2.2).run) (x0,x1,x2,x3,x4)
def za98:Ann:=⟨[],[],[],za44,[]⟩
def za99:=EndD.mk (LQ.kp 0 0 (LQ.v intP (LQ.v zf (LQ.v intP (LQ.v intP (LP.q zdr)))))) ⟨[1,4,86,87,88],[.pub 86,.nilsl 86 (.powers [])]⟩ [.cells 110 6]
def zawz:=EndD.mk (Par.q intP) ⟨[2],[]⟩ []
def zaw0:=EndD.mk (LQ.kp 0 0 (LP.q zdr)) ⟨[1],[]⟩ [.cells 110 6]
def za14:St→Option LR:=L2 130 4 0 za99 .ret zawz (.exit 0) zaw0 (u5 zhz)
def zs126a:=sub (fb Tryz.f98) [0,1,0,1,1,1,1,1,1]
theorem zbaa:zk (zyN).env 0 zs126a za14 :=
 zgs (A:=za98) zhN fM trivial (k:=z8 zs126a) (by kernel_rfl) rfl rfl (by rintro ⟨x0,x1,x2,x3,x4⟩;kernel_rfl)
def zh0 (x0:Int) (x1:(List Int)) (x2 x3:Int): Tr ((Int×(List Int)×Int×Int)⊕((Int)⊕(Unit))) :=
 (.ite (decide (x3 < x2))
  (.guard ((0:Int)≤x3∧x3 < ((Sl.len (.ints x1):Nat):Int))
  (.ite ((decide ((x1.getD x3.toNat 0)≤x0))||(decide ((x1.getD x3.toNat 0) > 5)))
   (.leaf (.inr (.inl 2)))
   (.leaf (.inl (x1.getD x3.toNat 0,x1,x2,i64.wrap (x3+1))))))
  (.leaf (.inr (.inr ()))))
def zsm (x0:Int) (x1:(List Int)) (x2 x3:Int):=zbl (fun s:Int×(List Int)×Int×Int=>(zh0 s.1 s.2.1 s.2.2.1 s.2.2.2).run) (x0,x1,x2,x3)
def zbab:Ann:=⟨[],[],[],za44,[]⟩
def zbac:=EndD.mk (LQ.v intP (LQ.v za7 (LQ.v intP (Par.q intP)))) ⟨[4,115,116,117],[.pub 115,.nilsl 115 (.ints [])]⟩ []
def zaw1:=EndD.mk (Par.q intP) ⟨[2],[]⟩ []
def zaw2:EndD (Unit):=⟨LQ.nil,⟨[],[]⟩,[]⟩
def za15:St→Option LR:=L2 130 4 0 zbac .ret zaw1 (.exit 2) zaw2 (u4 zh0)
def zs126b:=sub (fb Tryz.f98) [0,1,0,1,1,1,1,1,1,1,1]
theorem zbad:zk (zyN).env 0 zs126b za15 :=
 zgs (A:=zbab) zhN fM trivial (k:=z8 zs126b) (by kernel_rfl) rfl rfl (by rintro ⟨x0,x1,x2,x3⟩;kernel_rfl)
def zrt (a0:Packet): Tr (Int) :=
 (.ite ((decide (a0.Kind < 1))||(decide (a0.Kind > 4)))
  (.leaf 3)
  (.ite (((decide (a0.Id < 1))||(decide (a0.Id > 1099511627776)))||(((a0.Kind==3)||(a0.Kind==4))&&((((decide (a0.V < 0))||(decide (a0.V > 5)))||(decide (a0.N < 1)))||(decide (a0.N > 1125899906842624)))))
   (.leaf 2)
   (.ite (((!((a0.Kind==3)||(a0.Kind==4)))&&((a0.V != 0)||(a0.N != 0)))||((a0.Kind != 1)&&((decide (((a0.Set.length:Nat):Int) > 0))||(decide (((a0.Done.length:Nat):Int) > 0)))))
    (.leaf 1)
    (.two (zsl (-1) a0.Set ((a0.Set.length:Nat):Int) 0 a0) (fun v1 =>
     (.leaf v1)) (fun v2 =>
     (.two (zsm (-1) v2.Done ((v2.Done.length:Nat):Int) 0) (fun v3 =>
      (.leaf v3)) (fun v4 =>
      (.leaf 0))))))))
def za2 (a0:Packet):=(zrt a0).run
def zik:SpecT:=zn 0 (Par.q (Par.ofLP zdr)) 1 [] zrt default (Par.q intP) 1 []
theorem zk4:ze Tryz.prog 98 (zik).spec :=
 sK (A:=⟨[([0,1,0,1,1,1,1,1,1],za14),([0,1,0,1,1,1,1,1,1,1,1],za15)],[],[],za44,[]⟩) zhN fM Tryz.func98 (c:=(fb Tryz.f98)) (by kernel_rfl) (Lc:=0) ⟨zbaa,zbad,trivial⟩ _ _ 4 _ _ _ _ _ _ [] (by rintro a0;kernel_rfl)
def zbae:List (List Nat):=[[0,1],[0,1,5],[0,1,5,7],[0,1,5],[0,1,5],[0,1,5],[4]]
def zmh (x0 x1:Int) (x2:ByteArray): Tr ((Int×Int×ByteArray)⊕(ByteArray)) :=
 (.ite (decide (x1 > 0))
  (.guard ((256:Int)≠0)
  (.guard (0≤(IntKind.u8.wrap (Int.tmod x0 256))∧(IntKind.u8.wrap (Int.tmod x0 256)) < 256)
  (.guard ((⟨[UInt8.ofNat (IntKind.u8.wrap (Int.tmod x0 256)).toNat].toArray⟩:ByteArray).size+x2.size≤9223372036854775807)
  (.guard ((256:Int)≠0)
  (.leaf (.inl (i64.wrap (Int.tdiv x0 256),i64.wrap (x1 - 1),(⟨[UInt8.ofNat (IntKind.u8.wrap (Int.tmod x0 256)).toNat].toArray⟩:ByteArray)++x2)))))))
  (.leaf (.inr x2)))
def zk5 (x0 x1:Int) (x2:ByteArray):=zbl (fun s:Int×Int×ByteArray=>(zmh s.1 s.2.1 s.2.2).run) (x0,x1,x2)
def zbaf:Ann:=⟨[],[],[],zbae,[]⟩
def zbag:=EndD.mk (LQ.v intP (LQ.v intP (Par.q z67))) ⟨[0,1,5],[]⟩ []
def zaw3:=EndD.mk (Par.q z67) ⟨[5],[]⟩ []
def za16:St→Option LR:=L1 20 3 0 zbag (.exit 0) zaw3 (u3 zmh)
def zs127a:=sub (fb Tryz.f107) [0,0,1,1]
theorem zbah:zk (zyN).env 0 zs127a za16 :=
 zb5 (A:=zbaf) zhN fM trivial (k:=z8 zs127a) (by kernel_rfl) rfl (by rintro ⟨x0,x1,x2⟩;kernel_rfl)
def zzt (a0 a1:Int): Tr (ByteArray) :=
 (.bind (zk5 a0 a1 (⟨#[]⟩:ByteArray)) fun v1 =>
 (.leaf v1))
def zj (a0 a1:Int):=(zzt a0 a1).run
def z7u:SpecT:=zn 0 (LQ.v intP (Par.q intP)) 2 [] (u2 zzt) default (Par.q z67) 1 []
theorem zafk:ze Tryz.prog 107 (z7u).spec :=
 sK (A:=⟨[([0,0,1,1],za16)],[],[],zbae,[]⟩) zhN fM Tryz.func107 (c:=(fb Tryz.f107)) (by kernel_rfl) (Lc:=0) ⟨zbah,trivial⟩ _ _ 3 _ _ _ _ _ _ [] (by rintro ⟨a0,a1⟩;kernel_rfl)
def za45:List (List Nat):=[[1],[1,4],[1,4,13],[2,3],[1,5],[1,5,36,37,38],[1,5,36,37,38,39],[1,5,7,36,37,38],[1,5,36,37,38],[1,5,36,37,38],[1,5],[5,59,60,61],[5,59,60,61,62],[5,9,59,60,61],[5,59,60,61],[5,59,60,61],[2,3]]
noncomputable def za46:EnvT:=⟨Tryz.prog,zw [(98,zik),(107,z7u)]⟩
theorem za47:(za46).Ok:=zd ⟨zk4,zafk,trivial⟩
def zd0 (x0:ByteArray) (x1:(List Power)) (x2 x3:Int) (x4:Packet): Tr ((ByteArray×(List Power)×Int×Int×Packet)⊕(ByteArray×Packet)) :=
 (.ite (decide (x3 < x2))
  (.guard ((0:Int)≤x3∧x3 < ((Sl.len (.powers x1):Nat):Int))
  (.guard ((zj ((x1.getD x3.toNat default).V) 1).isSome=true)
  (.guard ((zj ((x1.getD x3.toNat default).N) 7).isSome=true)
  (.guard (((zj ((x1.getD x3.toNat default).V) 1).getD default).size+((zj ((x1.getD x3.toNat default).N) 7).getD default).size≤9223372036854775807)
  (.guard (x0.size+(((zj ((x1.getD x3.toNat default).V) 1).getD default)++((zj ((x1.getD x3.toNat default).N) 7).getD default)).size≤9223372036854775807)
  (.leaf (.inl (x0++(((zj ((x1.getD x3.toNat default).V) 1).getD default)++((zj ((x1.getD x3.toNat default).N) 7).getD default)),x1,x2,i64.wrap (x3+1),x4))))))))
  (.leaf (.inr (x0,x4))))
def zi5 (x0:ByteArray) (x1:(List Power)) (x2 x3:Int) (x4:Packet):=zbl (fun s:ByteArray×(List Power)×Int×Int×Packet=>(zd0 s.1 s.2.1 s.2.2.1 s.2.2.2.1 s.2.2.2.2).run) (x0,x1,x2,x3,x4)
def zbai:Ann:=⟨[],[],[],za45,[]⟩
def zbaj:=EndD.mk (LQ.kp 0 0 (LQ.v z67 (LQ.v zf (LQ.v intP (LQ.v intP (LP.q zdr)))))) ⟨[1,5,36,37,38],[.pub 36,.nilsl 36 (.powers [])]⟩ [.cells 110 6]
def zaw4:=EndD.mk (LQ.kp 0 0 (LQ.v z67 (LP.q zdr))) ⟨[1,5],[]⟩ [.cells 110 6]
def za17:St→Option LR:=L1 71 4 0 zbaj (.exit 0) zaw4 (u5 zd0)
def zs128a:=sub (fb Tryz.f64) [0,1,0,1,1,1,1]
theorem zbak:zk (za46).env 0 zs128a za17 :=
 zb5 (A:=zbai) za47 fM trivial (k:=z8 zs128a) (by kernel_rfl) rfl (by rintro ⟨x0,x1,x2,x3,x4⟩;kernel_rfl)
def zd1 (x0:ByteArray) (x1:(List Int)) (x2 x3:Int): Tr ((ByteArray×(List Int)×Int×Int)⊕(ByteArray)) :=
 (.ite (decide (x3 < x2))
  (.guard ((0:Int)≤x3∧x3 < ((Sl.len (.ints x1):Nat):Int))
  (.bind (zj (x1.getD x3.toNat 0) 1) fun v4 =>
  (.guard (x0.size+v4.size≤9223372036854775807)
  (.leaf (.inl (x0++v4,x1,x2,i64.wrap (x3+1)))))))
  (.leaf (.inr x0)))
def zi6 (x0:ByteArray) (x1:(List Int)) (x2 x3:Int):=zbl (fun s:ByteArray×(List Int)×Int×Int=>(zd1 s.1 s.2.1 s.2.2.1 s.2.2.2).run) (x0,x1,x2,x3)
def zbal:Ann:=⟨[],[],[],za45,[]⟩
def zbam:=EndD.mk (LQ.v z67 (LQ.v za7 (LQ.v intP (Par.q intP)))) ⟨[5,59,60,61],[.pub 59,.nilsl 59 (.ints [])]⟩ []
def zaw5:=EndD.mk (Par.q z67) ⟨[5],[]⟩ []
def za18:St→Option LR:=L1 71 4 0 zbam (.exit 2) zaw5 (u4 zd1)
def zs128b:=sub (fb Tryz.f64) [0,1,0,1,1,1,1,1,1]
theorem zban:zk (za46).env 0 zs128b za18 :=
 zb5 (A:=zbal) za47 fM trivial (k:=z8 zs128b) (by kernel_rfl) rfl (by rintro ⟨x0,x1,x2,x3⟩;kernel_rfl)
def zn3 (a0:Packet): Tr (ByteArray×Int) :=
 (.bind (za2 a0) fun v1 =>
 (.ite (v1 != 0)
  (.leaf ((⟨#[]⟩:ByteArray),v1))
  (.guard ((zj a0.Kind 1).isSome=true)
  (.guard ((zj a0.Id 6).isSome=true)
  (.guard (((zj a0.Kind 1).getD default).size+((zj a0.Id 6).getD default).size≤9223372036854775807)
  (.guard ((zj a0.V 1).isSome=true)
  (.guard ((((zj a0.Kind 1).getD default)++((zj a0.Id 6).getD default)).size+((zj a0.V 1).getD default).size≤9223372036854775807)
  (.guard ((zj a0.N 7).isSome=true)
  (.guard (((((zj a0.Kind 1).getD default)++((zj a0.Id 6).getD default))++((zj a0.V 1).getD default)).size+((zj a0.N 7).getD default).size≤9223372036854775807)
  (.guard ((zj ((a0.Set.length:Nat):Int) 1).isSome=true)
  (.guard ((((((zj a0.Kind 1).getD default)++((zj a0.Id 6).getD default))++((zj a0.V 1).getD default))++((zj a0.N 7).getD default)).size+((zj ((a0.Set.length:Nat):Int) 1).getD default).size≤9223372036854775807)
  (.bind (zi5 ((((((zj a0.Kind 1).getD default)++((zj a0.Id 6).getD default))++((zj a0.V 1).getD default))++((zj a0.N 7).getD default))++((zj ((a0.Set.length:Nat):Int) 1).getD default)) a0.Set ((a0.Set.length:Nat):Int) 0 a0) fun v2 =>
  (.bind (zj ((v2.2.Done.length:Nat):Int) 1) fun v3 =>
  (.guard (v2.1.size+v3.size≤9223372036854775807)
  (.bind (zi6 (v2.1++v3) v2.2.Done ((v2.2.Done.length:Nat):Int) 0) fun v5 =>
  (.leaf (v5,0)))))))))))))))))
def za8 (a0:Packet):=(zn3 a0).run
def zju:SpecT:=zn 0 (Par.q (Par.ofLP zdr)) 1 [] zn3 default (LQ.v z67 (Par.q intP)) 2 []
theorem zmu:ze Tryz.prog 64 (zju).spec :=
 sK (A:=⟨[([0,1,0,1,1,1,1],za17),([0,1,0,1,1,1,1,1,1],za18)],[],[],za45,[]⟩) za47 fM Tryz.func64 (c:=(fb Tryz.f64)) (by kernel_rfl) (Lc:=0) ⟨zbak,zban,trivial⟩ _ _ 4 _ _ _ _ _ _ [] (by rintro a0;kernel_rfl)
def zbao:List (List Nat):=[[0],[0,3],[3,7,8,9],[3,7,8,9,10],[3,5,7,8,9],[3,7,8,9],[3,7,8,9],[2]]
def zg7 (x0:Int) (x1:(List UInt8)) (x2 x3:Int): Tr ((Int×(List UInt8)×Int×Int)⊕(Int)) :=
 (.ite (decide (x3 < x2))
  (.guard ((0:Int)≤x3∧x3 < ((Sl.len (.bytes x1):Nat):Int))
  (.leaf (.inl (i64.wrap ((i64.wrap (256*x0))+(i64.wrap (((x1.getD x3.toNat 0).toNat:Nat):Int))),x1,x2,i64.wrap (x3+1)))))
  (.leaf (.inr x0)))
def zvz (x0:Int) (x1:(List UInt8)) (x2 x3:Int):=zbl (fun s:Int×(List UInt8)×Int×Int=>(zg7 s.1 s.2.1 s.2.2.1 s.2.2.2).run) (x0,x1,x2,x3)
def zbap:Ann:=⟨[],[],[],zbao,[]⟩
def zbaq:=EndD.mk (LQ.v intP (LQ.v z4a (LQ.v intP (Par.q intP)))) ⟨[3,7,8,9],[.pub 7,.nilsl 7 (.bytes [])]⟩ []
def zaw6:=EndD.mk (Par.q intP) ⟨[3],[]⟩ []
def za19:St→Option LR:=L1 20 2 0 zbaq (.exit 0) zaw6 (u4 zg7)
def zs129a:=sub (fb Tryz.f146) [0,1,0,1,1]
theorem zbar:zk (zyN).env 0 zs129a za19 :=
 zb5 (A:=zbap) zhN fM trivial (k:=z8 zs129a) (by kernel_rfl) rfl (by rintro ⟨x0,x1,x2,x3⟩;kernel_rfl)
def zw9 (a0:ByteArray): Tr (Int) :=
 (.guard (a0.size≤9223372036854775807)
 (.bind (zvz 0 a0.data.toList ((a0.data.toList.length:Nat):Int) 0) fun v1 =>
 (.leaf v1)))
def zc0 (a0:ByteArray):=(zw9 a0).run
def z4h:SpecT:=zn 0 (Par.q z67) 1 [] zw9 default (Par.q intP) 1 []
theorem zac5:ze Tryz.prog 146 (z4h).spec :=
 sK (A:=⟨[([0,1,0,1,1],za19)],[],[],zbao,[]⟩) zhN fM Tryz.func146 (c:=(fb Tryz.f146)) (by kernel_rfl) (Lc:=0) ⟨zbar,trivial⟩ _ _ 2 _ _ _ _ _ _ [] (by rintro a0;kernel_rfl)
def za48:List (List Nat):=[[0,2],[0,2,4],[0,2,4,15],[2,3],[0,2,4,5],[0,2,4,5,25],[2,3],[0,2,4,5,6],[0,2,4,5,6,40],[2,3],[0,2,4,5,6,7],[0,2,4,5,6,7,8],[0,2,4,5,6,7,8,57],[0,2,4,5,6,7,8],[0,2,4,5,6,7,8,9],[0,2,4,5,6,7,8],[0,2,4,5,6,7,10],[0,2,4,5,6,7,10,82],[0,2,4,5,6,7,10],[0,2,4,5,6,7,10],[2,4,7,11],[2,4,7,11,101],[2,3],[2,3]]
noncomputable def za49:EnvT:=⟨Tryz.prog,zw [(146,z4h),(98,zik)]⟩
theorem za5a:(za49).Ok:=zd ⟨zac5,zk4,trivial⟩
def zd2 (x0:ByteArray) (x1 x2 x3:Int) (x4 x5 x6:Packet): Tr ((ByteArray×Int×Int×Int×Packet×Packet×Packet)⊕(ByteArray×Int×Int×Packet×Packet×Packet)) :=
 (.ite (decide (x3 < x1))
  (.guard ((0:Int)≤(i64.wrap (16+(i64.wrap (8*x3))))∧(i64.wrap (16+(i64.wrap (8*x3)))) < ((x0.size:Nat):Int))
  (.guard ((0:Int)≤(i64.wrap ((i64.wrap (16+(i64.wrap (8*x3))))+1))∧(i64.wrap ((i64.wrap (16+(i64.wrap (8*x3))))+1))≤((i64.wrap ((i64.wrap (16+(i64.wrap (8*x3))))+8)):Int)∧(i64.wrap ((i64.wrap (16+(i64.wrap (8*x3))))+8))≤((x0.size:Nat):Int))
  (.guard ((zc0 (x0.extract (i64.wrap ((i64.wrap (16+(i64.wrap (8*x3))))+1)).toNat (i64.wrap ((i64.wrap (16+(i64.wrap (8*x3))))+8)).toNat)).isSome=true)
  (.guard ((Sl.len (.powers x6.Set)+Sl.len (.powers [(⟨i64.wrap (((x0.data.toList.getD (i64.wrap (16+(i64.wrap (8*x3)))).toNat 0).toNat:Nat):Int),((zc0 (x0.extract (i64.wrap ((i64.wrap (16+(i64.wrap (8*x3))))+1)).toNat (i64.wrap ((i64.wrap (16+(i64.wrap (8*x3))))+8)).toNat)).getD default)⟩:Power)]))*16≤140737488355328)
  (.leaf (.inl (x0,x1,x2,i64.wrap (x3+1),x4,x5,{ x6 with Set:=x6.Set++[(⟨i64.wrap (((x0.data.toList.getD (i64.wrap (16+(i64.wrap (8*x3)))).toNat 0).toNat:Nat):Int),((zc0 (x0.extract (i64.wrap ((i64.wrap (16+(i64.wrap (8*x3))))+1)).toNat (i64.wrap ((i64.wrap (16+(i64.wrap (8*x3))))+8)).toNat)).getD default)⟩:Power)] })))))))
  (.leaf (.inr (x0,x1,x2,x4,x5,x6))))
def zi7 (x0:ByteArray) (x1 x2 x3:Int) (x4 x5 x6:Packet):=zbl (fun s:ByteArray×Int×Int×Int×Packet×Packet×Packet=>(zd2 s.1 s.2.1 s.2.2.1 s.2.2.2.1 s.2.2.2.2.1 s.2.2.2.2.2.1 s.2.2.2.2.2.2).run) (x0,x1,x2,x3,x4,x5,x6)
def zbas:Ann:=⟨[],[],[],za48,[]⟩
def zbat:=EndD.mk (LQ.map (LQ.v z67 (LQ.kp 0 0 (LQ.kp 1 0 (LQ.v intP (LQ.v intP (LQ.kp 2 0 (LQ.v intP (LQ.v intP (LQ.v intP (LQ.v intP (LQ.v intP (LQ.k (LQ.c (.own 3)) (LQ.k (LQ.c (.own 4)) (LQ.v intP (LQ.v intP (LQ.v intP (LQ.v intP (LQ.k (LQ.c (.own 5)) (LQ.k (LQ.c (.own 6)) (LQ.v intP (LQ.v intP (LQ.v intP (LQ.v intP (LQ.k (LQ.c (.own 7)) (LQ.k (LQ.c (.own 8)) (LQ.v zf (LQ.v za7 (LQ.v zf (LQ.v za7 (LQ.v zf (Par.q za7))))))))))))))))))))))))))))))) (fun x=>(x.1,x.2.1,x.2.2.1,x.2.2.2.1,(⟨(d4 x).1,(d4 x).2.1,(d4 x).2.2.1,(d4 x).2.2.2.1,(d16 x).1,(d16 x).2.1⟩:Packet),(⟨(d8 x).1,(d8 x).2.1,(d8 x).2.2.1,(d8 x).2.2.2.1,(d16 x).2.2.1,(d16 x).2.2.2.1⟩:Packet),(⟨(d12 x).1,(d12 x).2.1,(d12 x).2.2.1,(d12 x).2.2.2.1,(d20 x).1,(d20 x).2⟩:Packet))) (fun y=>(y.1,y.2.1,y.2.2.1,y.2.2.2.1,(d4 y).1.Kind,(d4 y).1.Id,(d4 y).1.V,(d4 y).1.N,(d4 y).2.1.Kind,(d4 y).2.1.Id,(d4 y).2.1.V,(d4 y).2.1.N,(d4 y).2.2.Kind,(d4 y).2.2.Id,(d4 y).2.2.V,(d4 y).2.2.N,(d4 y).1.Set,(d4 y).1.Done,(d4 y).2.1.Set,(d4 y).2.1.Done,(d4 y).2.2.Set,(d4 y).2.2.Done)) (fun _=>rfl)) ⟨[0,2,4,5,6,7,8],[.nilcell 2 4 154 (.powers []),.nilcell 2 5 3 (.ints []),.nilcell 4 4 154 (.powers []),.nilcell 4 5 3 (.ints []),.nilcell 7 4 154 (.powers []),.nilcell 7 5 3 (.ints [])]⟩ [.cells 110 6,.cells 110 6,.cells 110 6,.rows 154,.rows 3,.rows 154,.rows 3,.rows 154,.rows 3]
def zaw7:=EndD.mk (LQ.map (LQ.v z67 (LQ.kp 0 0 (LQ.kp 1 0 (LQ.v intP (LQ.v intP (LQ.kp 2 0 (LQ.v intP (LQ.v intP (LQ.v intP (LQ.v intP (LQ.k (LQ.c (.own 3)) (LQ.k (LQ.c (.own 4)) (LQ.v intP (LQ.v intP (LQ.v intP (LQ.v intP (LQ.k (LQ.c (.own 5)) (LQ.k (LQ.c (.own 6)) (LQ.v intP (LQ.v intP (LQ.v intP (LQ.v intP (LQ.k (LQ.c (.own 7)) (LQ.k (LQ.c (.own 8)) (LQ.v zf (LQ.v za7 (LQ.v zf (LQ.v za7 (LQ.v zf (Par.q za7)))))))))))))))))))))))))))))) (fun x=>(x.1,x.2.1,x.2.2.1,(⟨x.2.2.2.1,(d4 x).1,(d4 x).2.1,(d4 x).2.2.1,(d12 x).2.2.2.1,(d16 x).1⟩:Packet),(⟨(d4 x).2.2.2.1,(d8 x).1,(d8 x).2.1,(d8 x).2.2.1,(d16 x).2.1,(d16 x).2.2.1⟩:Packet),(⟨(d8 x).2.2.2.1,(d12 x).1,(d12 x).2.1,(d12 x).2.2.1,(d16 x).2.2.2.1,(d20 x)⟩:Packet))) (fun y=>(y.1,y.2.1,y.2.2.1,y.2.2.2.1.Kind,y.2.2.2.1.Id,y.2.2.2.1.V,y.2.2.2.1.N,(d4 y).1.Kind,(d4 y).1.Id,(d4 y).1.V,(d4 y).1.N,(d4 y).2.Kind,(d4 y).2.Id,(d4 y).2.V,(d4 y).2.N,y.2.2.2.1.Set,y.2.2.2.1.Done,(d4 y).1.Set,(d4 y).1.Done,(d4 y).2.Set,(d4 y).2.Done)) (fun _=>rfl)) ⟨[0,2,4,5,6,7],[.nilcell 2 4 154 (.powers []),.nilcell 2 5 3 (.ints []),.nilcell 4 4 154 (.powers []),.nilcell 4 5 3 (.ints []),.nilcell 7 4 154 (.powers []),.nilcell 7 5 3 (.ints [])]⟩ [.cells 110 6,.cells 110 6,.cells 110 6,.rows 154,.rows 3,.rows 154,.rows 3,.rows 154,.rows 3]
def za2a:St→Option LR:=L1 105 13 0 zbat (.exit 0) zaw7 (u7 zd2)
def zs130a:=sub (fb Tryz.f108) [0,1,0,1,1,1,1,1,1,1,1]
theorem zbau:zk (za49).env 0 zs130a za2a :=
 zb5 (A:=zbas) za5a fM trivial (k:=z8 zs130a) (by kernel_rfl) rfl (by rintro ⟨x0,x1,x2,x3,x4,x5,x6⟩;kernel_rfl)
def zd3 (x0:ByteArray) (x1 x2 x3:Int) (x4 x5 x6:Packet): Tr ((ByteArray×Int×Int×Int×Packet×Packet×Packet)⊕(Packet×Packet×Packet)) :=
 (.ite (decide (x3 < x2))
  (.guard ((0:Int)≤(i64.wrap ((i64.wrap (17+(i64.wrap (8*x1))))+x3))∧(i64.wrap ((i64.wrap (17+(i64.wrap (8*x1))))+x3)) < ((x0.size:Nat):Int))
  (.guard ((Sl.len (.ints x6.Done)+Sl.len (.ints [i64.wrap (((x0.data.toList.getD (i64.wrap ((i64.wrap (17+(i64.wrap (8*x1))))+x3)).toNat 0).toNat:Nat):Int)]))*8≤140737488355328)
  (.leaf (.inl (x0,x1,x2,i64.wrap (x3+1),x4,x5,{ x6 with Done:=x6.Done++[i64.wrap (((x0.data.toList.getD (i64.wrap ((i64.wrap (17+(i64.wrap (8*x1))))+x3)).toNat 0).toNat:Nat):Int)] })))))
  (.leaf (.inr (x4,x5,x6))))
def zi8 (x0:ByteArray) (x1 x2 x3:Int) (x4 x5 x6:Packet):=zbl (fun s:ByteArray×Int×Int×Int×Packet×Packet×Packet=>(zd3 s.1 s.2.1 s.2.2.1 s.2.2.2.1 s.2.2.2.2.1 s.2.2.2.2.2.1 s.2.2.2.2.2.2).run) (x0,x1,x2,x3,x4,x5,x6)
def zbav:Ann:=⟨[],[],[],za48,[]⟩
def zbaw:=EndD.mk (LQ.map (LQ.v z67 (LQ.kp 0 0 (LQ.kp 1 0 (LQ.v intP (LQ.v intP (LQ.kp 2 0 (LQ.v intP (LQ.v intP (LQ.v intP (LQ.v intP (LQ.v intP (LQ.k (LQ.c (.own 3)) (LQ.k (LQ.c (.own 4)) (LQ.v intP (LQ.v intP (LQ.v intP (LQ.v intP (LQ.k (LQ.c (.own 5)) (LQ.k (LQ.c (.own 6)) (LQ.v intP (LQ.v intP (LQ.v intP (LQ.v intP (LQ.k (LQ.c (.own 7)) (LQ.k (LQ.c (.own 8)) (LQ.v zf (LQ.v za7 (LQ.v zf (LQ.v za7 (LQ.v zf (Par.q za7))))))))))))))))))))))))))))))) (fun x=>(x.1,x.2.1,x.2.2.1,x.2.2.2.1,(⟨(d4 x).1,(d4 x).2.1,(d4 x).2.2.1,(d4 x).2.2.2.1,(d16 x).1,(d16 x).2.1⟩:Packet),(⟨(d8 x).1,(d8 x).2.1,(d8 x).2.2.1,(d8 x).2.2.2.1,(d16 x).2.2.1,(d16 x).2.2.2.1⟩:Packet),(⟨(d12 x).1,(d12 x).2.1,(d12 x).2.2.1,(d12 x).2.2.2.1,(d20 x).1,(d20 x).2⟩:Packet))) (fun y=>(y.1,y.2.1,y.2.2.1,y.2.2.2.1,(d4 y).1.Kind,(d4 y).1.Id,(d4 y).1.V,(d4 y).1.N,(d4 y).2.1.Kind,(d4 y).2.1.Id,(d4 y).2.1.V,(d4 y).2.1.N,(d4 y).2.2.Kind,(d4 y).2.2.Id,(d4 y).2.2.V,(d4 y).2.2.N,(d4 y).1.Set,(d4 y).1.Done,(d4 y).2.1.Set,(d4 y).2.1.Done,(d4 y).2.2.Set,(d4 y).2.2.Done)) (fun _=>rfl)) ⟨[0,2,4,5,6,7,10],[.nilcell 2 4 154 (.powers []),.nilcell 2 5 3 (.ints []),.nilcell 4 4 154 (.powers []),.nilcell 4 5 3 (.ints []),.nilcell 7 4 154 (.powers []),.nilcell 7 5 3 (.ints [])]⟩ [.cells 110 6,.cells 110 6,.cells 110 6,.rows 154,.rows 3,.rows 154,.rows 3,.rows 154,.rows 3]
def zaw8:=EndD.mk (LQ.map (LQ.kp 0 0 (LQ.kp 1 0 (LQ.kp 2 0 (LQ.v intP (LQ.v intP (LQ.v intP (LQ.v intP (LQ.k (LQ.c (.own 3)) (LQ.k (LQ.c (.own 4)) (LQ.v intP (LQ.v intP (LQ.v intP (LQ.v intP (LQ.k (LQ.c (.own 5)) (LQ.k (LQ.c (.own 6)) (LQ.v intP (LQ.v intP (LQ.v intP (LQ.v intP (LQ.k (LQ.c (.own 7)) (LQ.k (LQ.c (.own 8)) (LQ.v zf (LQ.v za7 (LQ.v zf (LQ.v za7 (LQ.v zf (Par.q za7))))))))))))))))))))))))))) (fun x=>((⟨x.1,x.2.1,x.2.2.1,x.2.2.2.1,(d12 x).1,(d12 x).2.1⟩:Packet),(⟨(d4 x).1,(d4 x).2.1,(d4 x).2.2.1,(d4 x).2.2.2.1,(d12 x).2.2.1,(d12 x).2.2.2.1⟩:Packet),(⟨(d8 x).1,(d8 x).2.1,(d8 x).2.2.1,(d8 x).2.2.2.1,(d16 x).1,(d16 x).2⟩:Packet))) (fun y=>(y.1.Kind,y.1.Id,y.1.V,y.1.N,y.2.1.Kind,y.2.1.Id,y.2.1.V,y.2.1.N,y.2.2.Kind,y.2.2.Id,y.2.2.V,y.2.2.N,y.1.Set,y.1.Done,y.2.1.Set,y.2.1.Done,y.2.2.Set,y.2.2.Done)) (fun _=>rfl)) ⟨[2,4,7],[.nilcell 2 4 154 (.powers []),.nilcell 2 5 3 (.ints []),.nilcell 4 4 154 (.powers []),.nilcell 4 5 3 (.ints []),.nilcell 7 4 154 (.powers []),.nilcell 7 5 3 (.ints [])]⟩ [.cells 110 6,.cells 110 6,.cells 110 6,.rows 154,.rows 3,.rows 154,.rows 3,.rows 154,.rows 3]
def za2b:St→Option LR:=L1 105 13 0 zbaw (.exit 2) zaw8 (u7 zd3)
def zs130b:=sub (fb Tryz.f108) [0,1,0,1,1,1,1,1,1,1,1,1]
theorem zbax:zk (za49).env 0 zs130b za2b :=
 zb5 (A:=zbav) za5a fM trivial (k:=z8 zs130b) (by kernel_rfl) rfl (by rintro ⟨x0,x1,x2,x3,x4,x5,x6⟩;kernel_rfl)
def zn4 (a0:ByteArray): Tr (Packet×Int) :=
 (.ite (decide (((a0.size:Nat):Int) < 17))
  (.leaf ((⟨0,0,0,0,[],[]⟩:Packet),1))
  (.guard ((0:Int)≤15∧15 < ((a0.size:Nat):Int))
  (.ite (decide (((a0.size:Nat):Int) < (i64.wrap (17+(i64.wrap (8*(i64.wrap (((a0.data.toList.getD 15 0).toNat:Nat):Int))))))))
   (.leaf ((⟨0,0,0,0,[],[]⟩:Packet),1))
   (.guard ((0:Int)≤(i64.wrap (16+(i64.wrap (8*(i64.wrap (((a0.data.toList.getD 15 0).toNat:Nat):Int))))))∧(i64.wrap (16+(i64.wrap (8*(i64.wrap (((a0.data.toList.getD 15 0).toNat:Nat):Int)))))) < ((a0.size:Nat):Int))
   (.ite (((a0.size:Nat):Int) != (i64.wrap ((i64.wrap (17+(i64.wrap (8*(i64.wrap (((a0.data.toList.getD 15 0).toNat:Nat):Int))))))+(i64.wrap (((a0.data.toList.getD (i64.wrap (16+(i64.wrap (8*(i64.wrap (((a0.data.toList.getD 15 0).toNat:Nat):Int)))))).toNat 0).toNat:Nat):Int)))))
    (.leaf ((⟨0,0,0,0,[],[]⟩:Packet),1))
    (.guard ((0:Int)≤0∧0 < ((a0.size:Nat):Int))
    (.guard ((0:Int)≤1∧1≤(7:Int)∧7≤((a0.size:Nat):Int))
    (.guard ((zc0 (a0.extract 1 7)).isSome=true)
    (.guard ((0:Int)≤7∧7 < ((a0.size:Nat):Int))
    (.guard ((0:Int)≤8∧8≤(15:Int)∧15≤((a0.size:Nat):Int))
    (.guard ((zc0 (a0.extract 8 15)).isSome=true)
    (.bind (zi7 a0 (i64.wrap (((a0.data.toList.getD 15 0).toNat:Nat):Int)) (i64.wrap (((a0.data.toList.getD (i64.wrap (16+(i64.wrap (8*(i64.wrap (((a0.data.toList.getD 15 0).toNat:Nat):Int)))))).toNat 0).toNat:Nat):Int)) 0 (⟨0,0,0,0,[],[]⟩:Packet) (⟨0,0,0,0,[],[]⟩:Packet) (⟨i64.wrap (((a0.data.toList.getD 0 0).toNat:Nat):Int),((zc0 (a0.extract 1 7)).getD default),i64.wrap (((a0.data.toList.getD 7 0).toNat:Nat):Int),((zc0 (a0.extract 8 15)).getD default),[],[]⟩:Packet)) fun v1 =>
    (.bind (zi8 v1.1 v1.2.1 v1.2.2.1 0 v1.2.2.2.1 v1.2.2.2.2.1 v1.2.2.2.2.2) fun v2 =>
    (.bind (za2 v2.2.2) fun v4 =>
    (.ite (v4 != 0)
     (.leaf (v2.2.1,v4))
     (.leaf (v2.2.2,0)))))))))))))))))
def zds (a0:ByteArray):=(zn4 a0).run
def zn5:SpecT:=zn 0 (Par.q z67) 1 [] zn4 default (LQ.v (Par.ofLP zdr) (Par.q intP)) 2 []
theorem zt5:ze Tryz.prog 108 (zn5).spec :=
 sK (A:=⟨[([0,1,0,1,1,1,1,1,1,1,1],za2a),([0,1,0,1,1,1,1,1,1,1,1,1],za2b)],[],[],za48,[]⟩) za5a fM Tryz.func108 (c:=(fb Tryz.f108)) (by kernel_rfl) (Lc:=0) ⟨zbau,zbax,trivial⟩ _ _ 13 _ _ _ _ _ _ [.pubB 2] (by rintro a0;kernel_rfl)
def zbay:List (List Nat):=[[0,1],[0,1,10],[4],[0,1,12,13],[0,1,12,13,14],[0,1,5,12,13],[0,1,12,13,24],[4],[0,1,12,13],[4]]
def zfi (x0 x1:(List Power)) (x2 x3:Int): Tr (((List Power)×(List Power)×Int×Int)⊕((Bool)⊕(Unit))) :=
 (.ite (decide (x3 < x2))
  (.guard ((0:Int)≤x3∧x3 < ((Sl.len (.powers x0):Nat):Int))
  (.guard ((0:Int)≤x3∧x3 < ((Sl.len (.powers x1):Nat):Int))
  (.ite (!((((x0.getD x3.toNat default).V)==((x1.getD x3.toNat default).V))&&((((x0.getD x3.toNat default).N)==((x1.getD x3.toNat default).N))&&true)))
   (.leaf (.inr (.inl false)))
   (.leaf (.inl (x0,x1,x2,i64.wrap (x3+1)))))))
  (.leaf (.inr (.inr ()))))
def zsn (x0 x1:(List Power)) (x2 x3:Int):=zbl (fun s:(List Power)×(List Power)×Int×Int=>(zfi s.1 s.2.1 s.2.2.1 s.2.2.2).run) (x0,x1,x2,x3)
def zbaz:Ann:=⟨[],[],[],zbay,[]⟩
def zba0:=EndD.mk (LQ.v zf (LQ.v zf (LQ.v intP (Par.q intP)))) ⟨[0,1,12,13],[.pub 0,.nilsl 0 (.powers []),.pub 1,.nilsl 1 (.powers [])]⟩ []
def zaw9:=EndD.mk (Par.q boolP) ⟨[4],[]⟩ []
def zaxa:EndD (Unit):=⟨LQ.nil,⟨[],[]⟩,[]⟩
def za2c:St→Option LR:=L2 26 2 0 zba0 .ret zaw9 (.exit 0) zaxa (u4 zfi)
def zs131a:=sub (fb Tryz.f40) [0,1,0,1,1]
theorem zba1:zk (zyN).env 0 zs131a za2c :=
 zgs (A:=zbaz) zhN fM trivial (k:=z8 zs131a) (by kernel_rfl) rfl rfl (by rintro ⟨x0,x1,x2,x3⟩;kernel_rfl)
def zru (a0 a1:(List Power)): Tr (Bool) :=
 (.ite (((a0.length:Nat):Int) != ((a1.length:Nat):Int))
  (.leaf false)
  (.two (zsn a0 a1 ((a0.length:Nat):Int) 0) (fun v1 =>
   (.leaf v1)) (fun v2 =>
   (.leaf true))))
def z5 (a0 a1:(List Power)):=(zru a0 a1).run
def zmi:SpecT:=zn 0 (LQ.v zf (Par.q zf)) 2 [] (u2 zru) default (Par.q boolP) 1 []
theorem zpk:ze Tryz.prog 40 (zmi).spec :=
 sK (A:=⟨[([0,1,0,1,1],za2c)],[],[],zbay,[]⟩) zhN fM Tryz.func40 (c:=(fb Tryz.f40)) (by kernel_rfl) (Lc:=0) ⟨zba1,trivial⟩ _ _ 2 _ _ _ _ _ _ [] (by rintro ⟨a0,a1⟩;kernel_rfl)
noncomputable def zbkq:EnvT:=⟨Tryz.prog,zw [(40,zmi),(41,zky)]⟩
theorem zbkr:(zbkq).Ok:=zd ⟨zpk,znz,trivial⟩
def zrv (a0 a1:Packet): Tr (Bool) :=
 (.guard ((((((a0.Kind==a1.Kind)&&(a0.Id==a1.Id))&&(a0.V==a1.V))&&(a0.N==a1.N))=true→((z5 a0.Set a1.Set).isSome=true)∧True))
 (.guard (((((((a0.Kind==a1.Kind)&&(a0.Id==a1.Id))&&(a0.V==a1.V))&&(a0.N==a1.N))&&((z5 a0.Set a1.Set).getD default))=true→((zb1 a0.Done a1.Done).isSome=true)∧True))
 (.leaf ((((((a0.Kind==a1.Kind)&&(a0.Id==a1.Id))&&(a0.V==a1.V))&&(a0.N==a1.N))&&((z5 a0.Set a1.Set).getD default))&&((zb1 a0.Done a1.Done).getD default)))))
def zfb (a0 a1:Packet):=(zrv a0 a1).run
def zrw:SpecT:=zn 0 (LQ.v (Par.ofLP zdr) (Par.q (Par.ofLP zdr))) 2 [] (u2 zrv) default (Par.q boolP) 1 []
theorem zx8:ze Tryz.prog 43 (zrw).spec :=
 sK (A:=⟨[],[],[],[[2,3],[4]],[]⟩) zbkr fM Tryz.func43 (c:=(fb Tryz.f43)) (by kernel_rfl) (Lc:=0) trivial _ _ 4 _ _ _ _ _ _ [] (by rintro ⟨a0,a1⟩;kernel_rfl)
def zrx (a0:Packet): Tr (Packet) :=
 (.guard ((0+Sl.len (.powers a0.Set))*16≤140737488355328)
 (.guard ((0+Sl.len (.ints a0.Done))*8≤140737488355328)
 (.leaf a0)))
def zbd (a0:Packet):=(zrx a0).run
def zil:SpecT:=zn 0 (Par.q (Par.ofLP zdr)) 1 [] zrx default (Par.q (Par.ofLP zdr)) 1 []
theorem zk6:ze Tryz.prog 101 (zil).spec :=
 sK (A:=⟨[],[],[],[[1,2],[1,2],[2]],[]⟩) zhN fM Tryz.func101 (c:=(fb Tryz.f101)) (by kernel_rfl) (Lc:=0) trivial _ _ 6 _ _ _ _ _ _ [.pubB 2] (by rintro a0;kernel_rfl)
end
