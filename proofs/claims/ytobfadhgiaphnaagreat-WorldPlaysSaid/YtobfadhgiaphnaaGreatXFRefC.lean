/-
  The functions, each by its tree.
-/
import Derived.Test.YtobfadhgiaphnaaGreatXAbC
import Derived.Test.YtobfadhgiaphnaaGreatXFCodec
import Derived.Test.YtobfadhgiaphnaaGreatXFLine
import Derived.Test.YtobfadhgiaphnaaGreatXFRatio
import Derived.Test.YtobfadhgiaphnaaGreatXFRefA
import Derived.Test.YtobfadhgiaphnaaGreatXFacts
namespace Go.Proofs.YtobfadhgiaphnaaGreat.Ab
open Go Go.RowKit
open Go.IntKind (i64 u64)
set_option maxRecDepth 100000
set_option linter.unusedVariables false
set_option linter.unusedSimpArgs false
noncomputable section
def za6n:List (List Nat):=[[0,1],[1,5],[5,12,13,14],[5,12,13,14,15],[5,7,12,13,14],[5,7,12,13,14,25],[5,12,13,14],[5,12,13,14],[5,8],[5,8,32],[5,8,32,33],[5,8,9,32],[5,8,9,32,38],[5,8,32],[5,8,32],[4]]
noncomputable def za6o:EnvT:=⟨Tryz.prog,zw [(70,z2l)]⟩
theorem za6p:(za6o).Ok:=zd ⟨z3j,trivial⟩
def zmb (x0:(List Power)) (x1 x2:Int) (x3:(A6 Int)): Tr (((List Power)×Int×Int×(A6 Int))⊕((A6 Int))) :=
 (.ite (decide (x2 < x1))
  (.guard ((0:Int)≤x2∧x2 < ((Sl.len (.powers x0):Nat):Int))
  (.ite ((decide (((x0.getD x2.toNat default).V)≥0))&&(decide (((x0.getD x2.toNat default).V) < 6)))
   (.guard ((0:Int)≤((x0.getD x2.toNat default).V)∧(((x0.getD x2.toNat default).V):Int) < 6)
   (.leaf (.inl (x0,x1,i64.wrap (x2+1),(x3.set ((x0.getD x2.toNat default).V) ((x0.getD x2.toNat default).N))))))
   (.leaf (.inl (x0,x1,i64.wrap (x2+1),x3)))))
  (.leaf (.inr x3)))
def zuy (x0:(List Power)) (x1 x2:Int) (x3:(A6 Int)):=zbl (fun s:(List Power)×Int×Int×(A6 Int)=>(zmb s.1 s.2.1 s.2.2.1 s.2.2.2).run) (x0,x1,x2,x3)
def zbdg:Ann:=⟨[],[],[],za6n,[]⟩
def zbdh:=EndD.mk (LQ.kp 0 0 (LQ.v zf (LQ.v intP (LQ.v intP (LP.q (a6L (LP.one intP))))))) ⟨[5,12,13,14],[.pub 12,.nilsl 12 (.powers [])]⟩ [.cells 44 6]
def zaxx:=EndD.mk (LQ.kp 0 0 (LP.q (a6L (LP.one intP)))) ⟨[5],[]⟩ [.cells 44 6]
def za2r:St→Option LR:=L1 49 6 0 zbdh (.exit 0) zaxx (u4 zmb)
def zs150a:=sub (fb Tryz.f68) [0,1,0,1,1]
theorem zbdi:zk (za6o).env 0 zs150a za2r :=
 zb5 (A:=zbdg) za6p fM trivial (k:=z8 zs150a) (by kernel_rfl) rfl (by rintro ⟨x0,x1,x2,x3⟩;kernel_rfl)
def zmc (x0:Int) (x1:(A6 Int)) (x2:(List Power)): Tr ((Int×(A6 Int)×(List Power))⊕((List Power))) :=
 (.ite (decide (x0 < 6))
  (.guard ((0:Int)≤x0∧(x0:Int) < 6)
  (.ite (decide ((x1.get x0) > 0))
   (.guard ((0:Int)≤x0∧(x0:Int) < 6)
   (.guard ((Sl.len (.powers x2)+Sl.len (.powers [(⟨x0,x1.get x0⟩:Power)]))*16≤140737488355328)
   (.leaf (.inl (i64.wrap (x0+1),x1,x2++[(⟨x0,x1.get x0⟩:Power)])))))
   (.leaf (.inl (i64.wrap (x0+1),x1,x2)))))
  (.leaf (.inr x2)))
def zuz (x0:Int) (x1:(A6 Int)) (x2:(List Power)):=zbl (fun s:Int×(A6 Int)×(List Power)=>(zmc s.1 s.2.1 s.2.2).run) (x0,x1,x2)
def zbdj:Ann:=⟨[],[],[],za6n,[]⟩
def zbdk:=EndD.mk (LQ.kp 0 0 (LQ.k (LQ.c (.own 1)) (LQ.v intP (LQ.seq (LP.q (a6L (LP.one intP))) (Par.q zf))))) ⟨[5,8,32],[.nilown 8 154 (.powers [])]⟩ [.cells 44 6,.rows 154]
def zaxy:=EndD.mk (LQ.k (LQ.c (.own 0)) (Par.q zf)) ⟨[8],[.nilown 8 154 (.powers [])]⟩ [.rows 154]
def za2s:St→Option LR:=L1 49 6 0 zbdk (.exit 2) zaxy (u3 zmc)
def zs150b:=sub (fb Tryz.f68) [0,1,0,1,1,1,1]
theorem zbdl:zk (za6o).env 0 zs150b za2s :=
 zb5 (A:=zbdj) za6p fM trivial (k:=z8 zs150b) (by kernel_rfl) rfl (by rintro ⟨x0,x1,x2⟩;kernel_rfl)
def z54 (a0 a1:(List Power)): Tr ((List Power)) :=
 (.bind (zdf a0) fun v1 =>
 (.bind (zuy a1 ((a1.length:Nat):Int) 0 v1) fun v2 =>
 (.bind (zuz 0 v2 []) fun v3 =>
 (.leaf v3))))
def zwa (a0 a1:(List Power)):=(z54 a0 a1).run
def zadl:SpecT:=zn 0 (LQ.v zf (Par.q zf)) 2 [] (u2 z54) default (Par.q zf) 1 []
theorem zaku:ze Tryz.prog 68 (zadl).spec :=
 sK (A:=⟨[([0,1,0,1,1],za2r),([0,1,0,1,1,1,1],za2s)],[],[],za6n,[]⟩) za6p fM Tryz.func68 (c:=(fb Tryz.f68)) (by kernel_rfl) (Lc:=0) ⟨zbdi,zbdl,trivial⟩ _ _ 6 _ _ _ _ _ _ [.pub 4] (by rintro ⟨a0,a1⟩;kernel_rfl)
def zbdm:List (List Nat):=[[0],[0,3],[3,6,7,8],[3,6,7,8,9],[3,5,6,7,8],[5,6,7,8,30],[2],[3,6,7,8],[3,6,7,8],[2]]
def zi4 (x0:Int) (x1:(List Power)) (x2 x3:Int): Tr ((Int×(List Power)×Int×Int)⊕((Bool)⊕(Unit))) :=
 (.ite (decide (x3 < x2))
  (.guard ((0:Int)≤x3∧x3 < ((Sl.len (.powers x1):Nat):Int))
  (.ite ((((decide (((x1.getD x3.toNat default).V)≤x0))||(decide (((x1.getD x3.toNat default).V) > 5)))||(decide (((x1.getD x3.toNat default).N) < 1)))||(decide (((x1.getD x3.toNat default).N) > 1125899906842624)))
   (.leaf (.inr (.inl false)))
   (.leaf (.inl ((x1.getD x3.toNat default).V,x1,x2,i64.wrap (x3+1))))))
  (.leaf (.inr (.inr ()))))
def zu0 (x0:Int) (x1:(List Power)) (x2 x3:Int):=zbl (fun s:Int×(List Power)×Int×Int=>(zi4 s.1 s.2.1 s.2.2.1 s.2.2.2).run) (x0,x1,x2,x3)
def zbdn:Ann:=⟨[],[],[],zbdm,[]⟩
def zbdo:=EndD.mk (LQ.v intP (LQ.v zf (LQ.v intP (Par.q intP)))) ⟨[3,6,7,8],[.pub 6,.nilsl 6 (.powers [])]⟩ []
def zaxz:=EndD.mk (Par.q boolP) ⟨[2],[]⟩ []
def zax0:EndD (Unit):=⟨LQ.nil,⟨[],[]⟩,[]⟩
def za2t:St→Option LR:=L2 34 3 0 zbdo .ret zaxz (.exit 0) zax0 (u4 zi4)
def zs151a:=sub (fb Tryz.f97) [0,1,0,1,1]
theorem zbdp:zk (zyN).env 0 zs151a za2t :=
 zgs (A:=zbdn) zhN fM trivial (k:=z8 zs151a) (by kernel_rfl) rfl rfl (by rintro ⟨x0,x1,x2,x3⟩;kernel_rfl)
def zz7 (a0:(List Power)): Tr (Bool) :=
 (.two (zu0 (-1) a0 ((a0.length:Nat):Int) 0) (fun v1 =>
  (.leaf v1)) (fun v2 =>
  (.leaf true)))
def zd9 (a0:(List Power)):=(zz7 a0).run
def z55:SpecT:=zn 0 (Par.q zf) 1 [] zz7 default (Par.q boolP) 1 []
theorem zaal:ze Tryz.prog 97 (z55).spec :=
 sK (A:=⟨[([0,1,0,1,1],za2t)],[],[],zbdm,[]⟩) zhN fM Tryz.func97 (c:=(fb Tryz.f97)) (by kernel_rfl) (Lc:=0) ⟨zbdp,trivial⟩ _ _ 3 _ _ _ _ _ _ [] (by rintro a0;kernel_rfl)
def zbdq:List (List Nat):=[[1,2],[1,2],[1,2,3],[1,2,3,19,20,21],[1,2,3,19,20,21,22],[1,2,3,5,19,20,21],[1,2,3,19,20,21],[1,2,3,19,20,21],[1,2],[2]]
noncomputable def zbdr:EnvT:=⟨Tryz.prog,zw [(76,zi0),(101,zil)]⟩
theorem zbds:(zbdr).Ok:=zd ⟨zj5,zk6,trivial⟩
def zea (x0:(List Packet)) (x1 x2:Int) (x3 x4:zb) (x5:(List Packet)): Tr (((List Packet)×Int×Int×zb×zb×(List Packet))⊕(zb×zb×(List Packet))) :=
 (.ite (decide (x2 < x1))
  (.guard ((0:Int)≤x2∧x2 < ((Sl.len (.packets x0):Nat):Int))
  (.bind (zbd (x0.getD x2.toNat default)) fun v1 =>
  (.guard ((Sl.len (.packets x5)+Sl.len (.packets [v1]))*80≤140737488355328)
  (.leaf (.inl (x0,x1,i64.wrap (x2+1),x3,x4,x5++[v1]))))))
  (.leaf (.inr (x3,x4,x5))))
def zi9 (x0:(List Packet)) (x1 x2:Int) (x3 x4:zb) (x5:(List Packet)):=zbl (fun s:(List Packet)×Int×Int×zb×zb×(List Packet)=>(zea s.1 s.2.1 s.2.2.1 s.2.2.2.1 s.2.2.2.2.1 s.2.2.2.2.2).run) (x0,x1,x2,x3,x4,x5)
def zbdt:Ann:=⟨[],[],[],zbdq,[]⟩
def zbdu:=EndD.mk (LQ.map (LQ.kp 0 0 (LQ.kp 1 0 (LQ.k (LQ.c (.own 2)) (LQ.v zal (LQ.v intP (LQ.v intP (LQ.v boolP (LQ.v boolP (LQ.v intP (LQ.v intP (LQ.v intP (LQ.k (LQ.c (.own 3)) (LQ.v zal (LQ.k (LQ.c (.own 4)) (LQ.seq (LP.q (a6L (LP.one boolP))) (LQ.k (LQ.c (.own 5)) (LQ.k (LQ.c (.own 6)) (LQ.v intP (LQ.v boolP (LQ.seq (LP.q zy8) (LQ.seq (LP.q zm) (LQ.v zal (LQ.v zf (LQ.v znd (LQ.v z81 (Par.q za7)))))))))))))))))))))))))) (fun x=>(x.1,x.2.1,x.2.2.1,(⟨x.2.2.2.1,(d4 x).1,(d4 x).2.1,(d4 x).2.2.1,(d4 x).2.2.2.1,(d12 x).2.2.2.1,(d8 x).1,(d16 x).1,(d8 x).2.1,(⟨(d16 x).2.1,(d16 x).2.2,(d8 x).2.2.1,(d8 x).2.2.2.1⟩:zbs),(d12 x).1⟩:zb),(d12 x).2.1,(d12 x).2.2.1)) (fun y=>(y.1,y.2.1,y.2.2.1,y.2.2.2.1.On,y.2.2.2.1.Gone,y.2.2.2.1.Height,y.2.2.2.1.Time,y.2.2.2.1.Id,y.2.2.2.1.Pending,y.2.2.2.1.Flags,y.2.2.2.1.Out.Got,y.2.2.2.1.Out.Closed,y.2.2.2.1.Seen,(d4 y).1,(d4 y).2,y.2.2.2.1.Set,y.2.2.2.1.Ripes,y.2.2.2.1.Out.Said,y.2.2.2.1.Out.Due)) (fun _=>rfl)) ⟨[1,2,3,19,20,21],[.nilcell 1 5 154 (.powers []),.nilcell 1 7 119 (.ripes []),.nilcell 1 14 9 (.strs []),.nilcell 1 15 3 (.ints []),.nilown 3 110 (.packets []),.pub 19,.nilsl 19 (.packets [])]⟩ [.cells 70 22,.cells 70 22,.rows 110,.rows 154,.rows 119,.rows 9,.rows 3]
def zax1:=EndD.mk (LQ.map (LQ.kp 0 0 (LQ.kp 1 0 (LQ.k (LQ.c (.own 2)) (LQ.v boolP (LQ.v boolP (LQ.v intP (LQ.v intP (LQ.v intP (LQ.k (LQ.c (.own 3)) (LQ.v zal (LQ.k (LQ.c (.own 4)) (LQ.seq (LP.q (a6L (LP.one boolP))) (LQ.k (LQ.c (.own 5)) (LQ.k (LQ.c (.own 6)) (LQ.v intP (LQ.v boolP (LQ.seq (LP.q zy8) (LQ.seq (LP.q zm) (LQ.v zal (LQ.v zf (LQ.v znd (LQ.v z81 (Par.q za7))))))))))))))))))))))) (fun x=>((⟨x.1,x.2.1,x.2.2.1,x.2.2.2.1,(d4 x).1,(d12 x).1,(d4 x).2.1,(d12 x).2.1,(d4 x).2.2.1,(⟨(d12 x).2.2.1,(d12 x).2.2.2,(d4 x).2.2.2.1,(d8 x).1⟩:zbs),(d8 x).2.1⟩:zb),(d8 x).2.2.1,(d8 x).2.2.2.1)) (fun y=>(y.1.On,y.1.Gone,y.1.Height,y.1.Time,y.1.Id,y.1.Pending,y.1.Flags,y.1.Out.Got,y.1.Out.Closed,y.1.Seen,y.2.1,y.2.2,y.1.Set,y.1.Ripes,y.1.Out.Said,y.1.Out.Due)) (fun _=>rfl)) ⟨[1,2,3],[.nilcell 1 5 154 (.powers []),.nilcell 1 7 119 (.ripes []),.nilcell 1 14 9 (.strs []),.nilcell 1 15 3 (.ints []),.nilown 3 110 (.packets [])]⟩ [.cells 70 22,.cells 70 22,.rows 110,.rows 154,.rows 119,.rows 9,.rows 3]
def za2u:St→Option LR:=L1 34 12 0 zbdu (.exit 0) zax1 (u6 zea)
def zs165a:=sub (fb Tryz.f67) [0,1,0,1,1,1]
theorem zbdv:zk (zbdr).env 0 zs165a za2u :=
 zb5 (A:=zbdt) zbds fM trivial (k:=z8 zs165a) (by kernel_rfl) rfl (by rintro ⟨x0,x1,x2,x3,x4,x5⟩;kernel_rfl)
def zok (a0:zb): Tr (zb) :=
 (.guard ((0+Sl.len (.powers a0.Set))*16≤140737488355328)
 (.guard ((zcy a0.Out).isSome=true)
 (.guard ((0+Sl.len (.ripes a0.Ripes))*16≤140737488355328)
 (.bind (zi9 a0.Pending ((a0.Pending.length:Nat):Int) 0 ({ a0 with Out:=((zcy a0.Out).getD default) }) (default:zb) []) fun v2 =>
 (.leaf ({ v2.1 with Pending:=v2.2.2 }))))))
def zh7 (a0:zb):=(zok a0).run
def zol:SpecT:=zn 0 (Par.q (Par.ofLP zm)) 1 [] zok default (Par.q (Par.ofLP zm)) 1 []
theorem zu1:ze Tryz.prog 67 (zol).spec :=
 sK (A:=⟨[([0,1,0,1,1,1],za2u)],[],[],zbdq,[]⟩) zbds fM Tryz.func67 (c:=(fb Tryz.f67)) (by kernel_rfl) (Lc:=0) ⟨zbdv,trivial⟩ _ _ 12 _ _ _ _ _ _ [.pubB 2] (by rintro a0;kernel_rfl)
def zbdw:List (List Nat):=[[1,2],[1,2],[1,2,3],[1,2,3,19,20,21],[1,2,3,19,20,21,22],[1,2,3,5,19,20,21],[1,2,3,19,20,21],[1,2,3,19,20,21],[1,2],[2]]
noncomputable def zbdx:EnvT:=⟨Tryz.prog,zw [(76,zi0),(101,zil)]⟩
theorem zbdy:(zbdx).Ok:=zd ⟨zj5,zk6,trivial⟩
def zc5 (x0:(List Packet)) (x1 x2:Int) (x3 x4:zb) (x5:(List Packet)): Tr (((List Packet)×Int×Int×zb×zb×(List Packet))⊕(zb×zb×(List Packet))) :=
 (.ite (decide (x2 < x1))
  (.guard ((0:Int)≤x2∧x2 < ((Sl.len (.packets x0):Nat):Int))
  (.bind (zbd (x0.getD x2.toNat default)) fun v1 =>
  (.guard ((Sl.len (.packets x5)+Sl.len (.packets [v1]))*80≤140737488355328)
  (.leaf (.inl (x0,x1,i64.wrap (x2+1),x3,x4,x5++[v1]))))))
  (.leaf (.inr (x3,x4,x5))))
def zhf (x0:(List Packet)) (x1 x2:Int) (x3 x4:zb) (x5:(List Packet)):=zbl (fun s:(List Packet)×Int×Int×zb×zb×(List Packet)=>(zc5 s.1 s.2.1 s.2.2.1 s.2.2.2.1 s.2.2.2.2.1 s.2.2.2.2.2).run) (x0,x1,x2,x3,x4,x5)
def zbdz:Ann:=⟨[],[],[],zbdw,[]⟩
def zbd0:=EndD.mk (LQ.map (LQ.kp 0 0 (LQ.kp 1 0 (LQ.k (LQ.c (.own 2)) (LQ.v zal (LQ.v intP (LQ.v intP (LQ.v boolP (LQ.v boolP (LQ.v intP (LQ.v intP (LQ.v intP (LQ.k (LQ.c (.own 3)) (LQ.v zal (LQ.k (LQ.c (.own 4)) (LQ.seq (LP.q (a6L (LP.one boolP))) (LQ.k (LQ.c (.own 5)) (LQ.k (LQ.c (.own 6)) (LQ.v intP (LQ.v boolP (LQ.seq (LP.q zy8) (LQ.seq (LP.q zm) (LQ.v zal (LQ.v zf (LQ.v znd (LQ.v z81 (Par.q za7)))))))))))))))))))))))))) (fun x=>(x.1,x.2.1,x.2.2.1,(⟨x.2.2.2.1,(d4 x).1,(d4 x).2.1,(d4 x).2.2.1,(d4 x).2.2.2.1,(d12 x).2.2.2.1,(d8 x).1,(d16 x).1,(d8 x).2.1,(⟨(d16 x).2.1,(d16 x).2.2,(d8 x).2.2.1,(d8 x).2.2.2.1⟩:zbs),(d12 x).1⟩:zb),(d12 x).2.1,(d12 x).2.2.1)) (fun y=>(y.1,y.2.1,y.2.2.1,y.2.2.2.1.On,y.2.2.2.1.Gone,y.2.2.2.1.Height,y.2.2.2.1.Time,y.2.2.2.1.Id,y.2.2.2.1.Pending,y.2.2.2.1.Flags,y.2.2.2.1.Out.Got,y.2.2.2.1.Out.Closed,y.2.2.2.1.Seen,(d4 y).1,(d4 y).2,y.2.2.2.1.Set,y.2.2.2.1.Ripes,y.2.2.2.1.Out.Said,y.2.2.2.1.Out.Due)) (fun _=>rfl)) ⟨[1,2,3,19,20,21],[.nilcell 1 5 154 (.powers []),.nilcell 1 7 119 (.ripes []),.nilcell 1 14 9 (.strs []),.nilcell 1 15 3 (.ints []),.nilown 3 110 (.packets []),.pub 19,.nilsl 19 (.packets [])]⟩ [.cells 70 22,.cells 70 22,.rows 110,.rows 154,.rows 119,.rows 9,.rows 3]
def zax2:=EndD.mk (LQ.map (LQ.kp 0 0 (LQ.kp 1 0 (LQ.k (LQ.c (.own 2)) (LQ.v boolP (LQ.v boolP (LQ.v intP (LQ.v intP (LQ.v intP (LQ.k (LQ.c (.own 3)) (LQ.v zal (LQ.k (LQ.c (.own 4)) (LQ.seq (LP.q (a6L (LP.one boolP))) (LQ.k (LQ.c (.own 5)) (LQ.k (LQ.c (.own 6)) (LQ.v intP (LQ.v boolP (LQ.seq (LP.q zy8) (LQ.seq (LP.q zm) (LQ.v zal (LQ.v zf (LQ.v znd (LQ.v z81 (Par.q za7))))))))))))))))))))))) (fun x=>((⟨x.1,x.2.1,x.2.2.1,x.2.2.2.1,(d4 x).1,(d12 x).1,(d4 x).2.1,(d12 x).2.1,(d4 x).2.2.1,(⟨(d12 x).2.2.1,(d12 x).2.2.2,(d4 x).2.2.2.1,(d8 x).1⟩:zbs),(d8 x).2.1⟩:zb),(d8 x).2.2.1,(d8 x).2.2.2.1)) (fun y=>(y.1.On,y.1.Gone,y.1.Height,y.1.Time,y.1.Id,y.1.Pending,y.1.Flags,y.1.Out.Got,y.1.Out.Closed,y.1.Seen,y.2.1,y.2.2,y.1.Set,y.1.Ripes,y.1.Out.Said,y.1.Out.Due)) (fun _=>rfl)) ⟨[1,2,3],[.nilcell 1 5 154 (.powers []),.nilcell 1 7 119 (.ripes []),.nilcell 1 14 9 (.strs []),.nilcell 1 15 3 (.ints []),.nilown 3 110 (.packets [])]⟩ [.cells 70 22,.cells 70 22,.rows 110,.rows 154,.rows 119,.rows 9,.rows 3]
def za2v:St→Option LR:=L1 34 12 0 zbd0 (.exit 0) zax2 (u6 zc5)
def zs166a:=sub (fb Tryz.f67) [0,1,0,1,1,1]
theorem zbd1:zk (zbdx).env 0 zs166a za2v :=
 zb5 (A:=zbdz) zbdy fM trivial (k:=z8 zs166a) (by kernel_rfl) rfl (by rintro ⟨x0,x1,x2,x3,x4,x5⟩;kernel_rfl)
def zlm (a0:zb): Tr (zb) :=
 (.guard ((0+Sl.len (.powers a0.Set))*16≤140737488355328)
 (.guard ((zcy a0.Out).isSome=true)
 (.guard ((0+Sl.len (.ripes a0.Ripes))*16≤140737488355328)
 (.bind (zhf a0.Pending ((a0.Pending.length:Nat):Int) 0 ({ a0 with Out:=((zcy a0.Out).getD default) }) (default:zb) []) fun v2 =>
 (.leaf ({ v2.1 with Pending:=v2.2.2 }))))))
def zgb (a0:zb):=(zlm a0).run
def zln:SpecT:=zn 0 (Par.q (Par.ofLP zm)) 1 [] zlm default (LQ.map (LQ.seq (LQ.agg (LQ.v boolP (LQ.v boolP (LQ.v intP (LQ.v intP (LQ.v intP (LQ.k (LQ.c (.own 0)) (LQ.k (LQ.c (.own 1)) (LQ.k (LQ.c (.own 2)) (LQ.seq (LP.q (a6L (LP.one boolP))) (LQ.k (LQ.c (.own 3)) (LQ.k (LQ.c (.own 4)) (LQ.v intP (LQ.v boolP (LP.q zy8))))))))))))))) (LQ.v zf (LQ.v zal (LQ.v znd (LQ.v z81 (Par.q za7)))))) (fun x=>(⟨x.1.1,x.1.2.1,x.1.2.2.1,x.1.2.2.2.1,x.1.2.2.2.2.1,x.2.1,x.2.2.1,x.2.2.2.1,x.1.2.2.2.2.2.1,(⟨(d4 x).1,(d4 x).2,x.1.2.2.2.2.2.2.1,x.1.2.2.2.2.2.2.2.1⟩:zbs),x.1.2.2.2.2.2.2.2.2⟩:zb)) (fun y=>((y.On,y.Gone,y.Height,y.Time,y.Id,y.Flags,y.Out.Got,y.Out.Closed,y.Seen),y.Set,y.Pending,y.Ripes,y.Out.Said,y.Out.Due)) (fun _=>rfl)) 1 [.rows 154,.rows 110,.rows 119,.rows 9,.rows 3]
theorem zra:ze Tryz.prog 67 (zln).spec :=
 sK (A:=⟨[([0,1,0,1,1,1],za2v)],[],[],zbdw,[]⟩) zbdy fM Tryz.func67 (c:=(fb Tryz.f67)) (by kernel_rfl) (Lc:=0) ⟨zbd1,trivial⟩ _ _ 12 _ _ _ _ _ _ [] (by rintro a0;kernel_rfl)
def za6q:List (List Nat):=[[2,3],[2,3,87],[4],[2,3,90,91],[2,3,90,91,92],[2,3,5,90,91],[2,3,90,91,105],[4],[2,3,90,91],[2,3,109,110],[2,3,109,110,111],[2,3,6,109,110],[2,3,109,110,123],[4],[2,3,109,110],[4]]
noncomputable def za6r:EnvT:=⟨Tryz.prog,zw [(40,zmi),(42,zw3),(43,zrw)]⟩
theorem za6s:(za6r).Ok:=zd ⟨zpk,z10,zx8,trivial⟩
def zeb (x0 x1:Int) (x2 x3:zb): Tr ((Int×Int×zb×zb)⊕((Bool)⊕(zb×zb))) :=
 (.ite (decide (x1 < x0))
  (.guard ((0:Int)≤x1∧x1 < ((Sl.len (.packets x2.Pending):Nat):Int))
  (.guard ((0:Int)≤x1∧x1 < ((Sl.len (.packets x3.Pending):Nat):Int))
  (.guard ((zfb (x2.Pending.getD x1.toNat default) (x3.Pending.getD x1.toNat default)).isSome=true)
  (.ite (!((zfb (x2.Pending.getD x1.toNat default) (x3.Pending.getD x1.toNat default)).getD default))
   (.leaf (.inr (.inl false)))
   (.leaf (.inl (x0,i64.wrap (x1+1),x2,x3)))))))
  (.leaf (.inr (.inr (x2,x3)))))
def zja (x0 x1:Int) (x2 x3:zb):=zbl (fun s:Int×Int×zb×zb=>(zeb s.1 s.2.1 s.2.2.1 s.2.2.2).run) (x0,x1,x2,x3)
def zbd2:Ann:=⟨[],[],[],za6q,[]⟩
def zbd3:=EndD.mk (LQ.kp 0 0 (LQ.kp 1 0 (LQ.v intP (LQ.v intP (LQ.seq (LP.q zm) (LP.q zm)))))) ⟨[2,3,90,91],[]⟩ [.cells 70 22,.cells 70 22]
def zax3:=EndD.mk (Par.q boolP) ⟨[4],[]⟩ []
def zax4:=EndD.mk (LQ.kp 0 0 (LQ.kp 1 0 (LQ.seq (LP.q zm) (LP.q zm)))) ⟨[2,3],[]⟩ [.cells 70 22,.cells 70 22]
def za2w:St→Option LR:=L2 125 4 0 zbd3 .ret zax3 (.exit 0) zax4 (u4 zeb)
def zs167a:=sub (fb Tryz.f13) [0,1,0,1,1]
theorem zbd4:zk (za6r).env 0 zs167a za2w :=
 zgs (A:=zbd2) za6s fM trivial (k:=z8 zs167a) (by kernel_rfl) rfl rfl (by rintro ⟨x0,x1,x2,x3⟩;kernel_rfl)
def zec (x0 x1:Int) (x2 x3:zb): Tr ((Int×Int×zb×zb)⊕((Bool)⊕(Unit))) :=
 (.ite (decide (x1 < x0))
  (.guard ((0:Int)≤x1∧x1 < ((Sl.len (.ripes x2.Ripes):Nat):Int))
  (.guard ((0:Int)≤x1∧x1 < ((Sl.len (.ripes x3.Ripes):Nat):Int))
  (.ite (!((((x2.Ripes.getD x1.toNat default).Id)==((x3.Ripes.getD x1.toNat default).Id))&&((((x2.Ripes.getD x1.toNat default).Due)==((x3.Ripes.getD x1.toNat default).Due))&&true)))
   (.leaf (.inr (.inl false)))
   (.leaf (.inl (x0,i64.wrap (x1+1),x2,x3))))))
  (.leaf (.inr (.inr ()))))
def zjb (x0 x1:Int) (x2 x3:zb):=zbl (fun s:Int×Int×zb×zb=>(zec s.1 s.2.1 s.2.2.1 s.2.2.2).run) (x0,x1,x2,x3)
def zbd5:Ann:=⟨[],[],[],za6q,[]⟩
def zbd6:=EndD.mk (LQ.kp 0 0 (LQ.kp 1 0 (LQ.v intP (LQ.v intP (LQ.seq (LP.q zm) (LP.q zm)))))) ⟨[2,3,109,110],[]⟩ [.cells 70 22,.cells 70 22]
def zax5:=EndD.mk (Par.q boolP) ⟨[4],[]⟩ []
def zax6:EndD (Unit):=⟨LQ.nil,⟨[],[]⟩,[]⟩
def za2x:St→Option LR:=L2 125 4 0 zbd6 .ret zax5 (.exit 2) zax6 (u4 zec)
def zs167b:=sub (fb Tryz.f13) [0,1,0,1,1,1]
theorem zbd7:zk (za6r).env 0 zs167b za2x :=
 zgs (A:=zbd5) za6s fM trivial (k:=z8 zs167b) (by kernel_rfl) rfl rfl (by rintro ⟨x0,x1,x2,x3⟩;kernel_rfl)
def zom (a0 a1:zb): Tr (Bool) :=
 (.guard (((((((((!(a0.On==a1.On))||(!(a0.Gone==a1.Gone)))||(a0.Height != a1.Height))||(a0.Time != a1.Time))||(a0.Id != a1.Id))||(!(zacu a0.Flags a1.Flags)))||(!(z7b a0.Seen a1.Seen)))=false→((z5 a0.Set a1.Set).isSome=true)∧True))
 (.guard ((((((((((!(a0.On==a1.On))||(!(a0.Gone==a1.Gone)))||(a0.Height != a1.Height))||(a0.Time != a1.Time))||(a0.Id != a1.Id))||(!(zacu a0.Flags a1.Flags)))||(!(z7b a0.Seen a1.Seen)))||(!((z5 a0.Set a1.Set).getD default)))=false→((zg2 a0.Out a1.Out).isSome=true)∧True))
 (.ite (((((((((((!(a0.On==a1.On))||(!(a0.Gone==a1.Gone)))||(a0.Height != a1.Height))||(a0.Time != a1.Time))||(a0.Id != a1.Id))||(!(zacu a0.Flags a1.Flags)))||(!(z7b a0.Seen a1.Seen)))||(!((z5 a0.Set a1.Set).getD default)))||(!((zg2 a0.Out a1.Out).getD default)))||(((a0.Pending.length:Nat):Int) != ((a1.Pending.length:Nat):Int)))||(((a0.Ripes.length:Nat):Int) != ((a1.Ripes.length:Nat):Int)))
  (.leaf false)
  (.two (zja ((a0.Pending.length:Nat):Int) 0 a0 a1) (fun v1 =>
   (.leaf v1)) (fun v2 =>
   (.two (zjb ((v2.1.Ripes.length:Nat):Int) 0 v2.1 v2.2) (fun v3 =>
    (.leaf v3)) (fun v4 =>
    (.leaf true))))))))
def zbp (a0 a1:zb):=(zom a0 a1).run
def zwb:SpecT:=zn 0 (LQ.v (Par.ofLP zm) (Par.q (Par.ofLP zm))) 2 [] (u2 zom) default (Par.q boolP) 1 []
theorem z56:ze Tryz.prog 13 (zwb).spec :=
 sK (A:=⟨[([0,1,0,1,1],za2w),([0,1,0,1,1,1],za2x)],[],[],za6q,[]⟩) za6s fM Tryz.func13 (c:=(fb Tryz.f13)) (by kernel_rfl) (Lc:=0) ⟨zbd4,zbd7,trivial⟩ _ _ 4 _ _ _ _ _ _ [] (by rintro ⟨a0,a1⟩;kernel_rfl)
def za6t:List (List Nat):=[[1],[1,8,9,10],[1,8,9,10,11],[1,4,8,9,10],[1,8,9,10,21],[2],[1,8,9,10],[1,24,25,26],[1,24,25,26,27],[1,6,24,25,26],[1,24,25,26,42],[2],[1,24,25,26],[2]]
noncomputable def za6u:EnvT:=⟨Tryz.prog,zw [(98,zik),(75,zi1),(97,z55)]⟩
theorem za6v:(za6u).Ok:=zd ⟨zk4,zj6,zaal,trivial⟩
def zcm (x0:(List Packet)) (x1 x2:Int) (x3:zb): Tr (((List Packet)×Int×Int×zb)⊕((Bool)⊕(zb))) :=
 (.ite (decide (x2 < x1))
  (.guard ((0:Int)≤x2∧x2 < ((Sl.len (.packets x0):Nat):Int))
  (.guard (((((x0.getD x2.toNat default).Kind) != 1)=false→((za2 (x0.getD x2.toNat default)).isSome=true)∧True))
  (.ite ((((x0.getD x2.toNat default).Kind) != 1)||(((za2 (x0.getD x2.toNat default)).getD default) != 0))
   (.leaf (.inr (.inl false)))
   (.leaf (.inl (x0,x1,i64.wrap (x2+1),x3))))))
  (.leaf (.inr (.inr x3))))
def zjc (x0:(List Packet)) (x1 x2:Int) (x3:zb):=zbl (fun s:(List Packet)×Int×Int×zb=>(zcm s.1 s.2.1 s.2.2.1 s.2.2.2).run) (x0,x1,x2,x3)
def zbd8:Ann:=⟨[],[],[],za6t,[]⟩
def zbd9:=EndD.mk (LQ.kp 0 0 (LQ.v zal (LQ.v intP (LQ.v intP (LP.q zm))))) ⟨[1,8,9,10],[.pub 8,.nilsl 8 (.packets [])]⟩ [.cells 70 22]
def zax7:=EndD.mk (Par.q boolP) ⟨[2],[]⟩ []
def zax8:=EndD.mk (LQ.kp 0 0 (LP.q zm)) ⟨[1],[]⟩ [.cells 70 22]
def za2y:St→Option LR:=L2 91 4 0 zbd9 .ret zax7 (.exit 0) zax8 (u4 zcm)
def zs168a:=sub (fb Tryz.f66) [0,1,0,1]
theorem zbea:zk (za6u).env 0 zs168a za2y :=
 zgs (A:=zbd8) za6v fM trivial (k:=z8 zs168a) (by kernel_rfl) rfl rfl (by rintro ⟨x0,x1,x2,x3⟩;kernel_rfl)
def zcn (x0:(List Ripe)) (x1 x2:Int) (x3:zb): Tr (((List Ripe)×Int×Int×zb)⊕((Bool)⊕(zb))) :=
 (.ite (decide (x2 < x1))
  (.guard ((0:Int)≤x2∧x2 < ((Sl.len (.ripes x0):Nat):Int))
  (.ite (((decide (((x0.getD x2.toNat default).Id) < 1))||(decide (((x0.getD x2.toNat default).Id) > 1099511627776)))||(decide (((x0.getD x2.toNat default).Due) < 0)))
   (.leaf (.inr (.inl false)))
   (.leaf (.inl (x0,x1,i64.wrap (x2+1),x3)))))
  (.leaf (.inr (.inr x3))))
def zjd (x0:(List Ripe)) (x1 x2:Int) (x3:zb):=zbl (fun s:(List Ripe)×Int×Int×zb=>(zcn s.1 s.2.1 s.2.2.1 s.2.2.2).run) (x0,x1,x2,x3)
def zbeb:Ann:=⟨[],[],[],za6t,[]⟩
def zbec:=EndD.mk (LQ.kp 0 0 (LQ.v znd (LQ.v intP (LQ.v intP (LP.q zm))))) ⟨[1,24,25,26],[.pub 24,.nilsl 24 (.ripes [])]⟩ [.cells 70 22]
def zax9:=EndD.mk (Par.q boolP) ⟨[2],[]⟩ []
def zaya:=EndD.mk (LQ.kp 0 0 (LP.q zm)) ⟨[1],[]⟩ [.cells 70 22]
def za2z:St→Option LR:=L2 91 4 0 zbec .ret zax9 (.exit 2) zaya (u4 zcn)
def zs168b:=sub (fb Tryz.f66) [0,1,0,1,1]
theorem zbed:zk (za6u).env 0 zs168b za2z :=
 zgs (A:=zbeb) za6v fM trivial (k:=z8 zs168b) (by kernel_rfl) rfl rfl (by rintro ⟨x0,x1,x2,x3⟩;kernel_rfl)
def zon (a0:zb): Tr (Bool) :=
 (.two (zjc a0.Pending ((a0.Pending.length:Nat):Int) 0 a0) (fun v1 =>
  (.leaf v1)) (fun v2 =>
  (.two (zjd v2.Ripes ((v2.Ripes.length:Nat):Int) 0 v2) (fun v3 =>
   (.leaf v3)) (fun v4 =>
   (.guard (((((((((!(v4.On&&v4.Gone))&&(decide (v4.Height≥0)))&&(decide (v4.Height < 1099511627776)))&&(decide (v4.Time≥0)))&&(decide (v4.Time≤1099511627776)))&&(decide (v4.Id≥0)))&&(decide (v4.Id≤1099511627776)))=true→((zb8 v4.Out).isSome=true)∧True))
   (.guard ((((((((((!(v4.On&&v4.Gone))&&(decide (v4.Height≥0)))&&(decide (v4.Height < 1099511627776)))&&(decide (v4.Time≥0)))&&(decide (v4.Time≤1099511627776)))&&(decide (v4.Id≥0)))&&(decide (v4.Id≤1099511627776)))&&((zb8 v4.Out).getD default))=true→((zd9 v4.Set).isSome=true)∧True))
   (.leaf (((((((((!(v4.On&&v4.Gone))&&(decide (v4.Height≥0)))&&(decide (v4.Height < 1099511627776)))&&(decide (v4.Time≥0)))&&(decide (v4.Time≤1099511627776)))&&(decide (v4.Id≥0)))&&(decide (v4.Id≤1099511627776)))&&((zb8 v4.Out).getD default))&&((zd9 v4.Set).getD default)))))))))
def zdv (a0:zb):=(zon a0).run
def zgc:SpecT:=zn 0 (Par.q (Par.ofLP zm)) 1 [] zon default (Par.q boolP) 1 []
theorem zh8:ze Tryz.prog 66 (zgc).spec :=
 sK (A:=⟨[([0,1,0,1],za2y),([0,1,0,1,1],za2z)],[],[],za6t,[]⟩) za6v fM Tryz.func66 (c:=(fb Tryz.f66)) (by kernel_rfl) (Lc:=0) ⟨zbea,zbed,trivial⟩ _ _ 4 _ _ _ _ _ _ [] (by rintro a0;kernel_rfl)
def zm6 (a0:(List Power)) (a1 a2:Int): Tr (zb) :=
 (.guard ((0+Sl.len (.powers a0))*16≤140737488355328)
 (.leaf (⟨true,false,0,a2,a1,a0,[],[],(⟨false,false,false,false,false,false⟩:(A6 Bool)),(⟨[],[],0,false⟩:zbs),(⟨0,0,0,0⟩:Head)⟩:zb)))
def zgw (a0:(List Power)) (a1 a2:Int):=(zm6 a0 a1 a2).run
def zu2:SpecT:=zn 0 (LQ.v zf (LQ.v intP (Par.q intP))) 3 [] (u3 zm6) default (Par.q (Par.ofLP zm)) 1 []
theorem z30:ze Tryz.prog 25 (zu2).spec :=
 sK (A:=⟨[],[],[],[[0,1,2,6],[6]],[]⟩) zhN fM Tryz.func25 (c:=(fb Tryz.f25)) (by kernel_rfl) (Lc:=0) trivial _ _ 4 _ _ _ _ _ _ [.pubB 6] (by rintro ⟨a0,a1,a2⟩;kernel_rfl)
noncomputable def zbn6:EnvT:=⟨Tryz.prog,zw [(66,zgc),(108,zn5),(67,zln)]⟩
theorem zbn7:(zbn6).Ok:=zd ⟨zh8,zt5,zra,trivial⟩
def zoo (a0:zb) (a1:ByteArray): Tr (zb×Int) :=
 (.bind (zdv a0) fun v1 =>
 (.ite (!v1)
  (.leaf (a0,2))
  (.ite (!a0.On)
   (.leaf (a0,4))
   (.bind (zds a1) fun v2 =>
   (.ite (v2.2 != 0)
    (.leaf (a0,v2.2))
    (.ite (v2.1.Kind != 1)
     (.leaf (a0,3))
     (.bind (zgb a0) fun v3 =>
     (.guard ((Sl.len (.packets v3.Pending)+Sl.len (.packets [v2.1]))*80≤140737488355328)
     (.leaf ({ v3 with Pending:=v3.Pending++[v2.1] },0))))))))))
def zia (a0:zb) (a1:ByteArray):=(zoo a0 a1).run
def zwc:SpecT:=zn 0 (LQ.v (Par.ofLP zm) (Par.q z67)) 2 [] (u2 zoo) default (LQ.v (Par.ofLP zm) (Par.q intP)) 2 []
theorem z57:ze Tryz.prog 74 (zwc).spec :=
 sK (A:=⟨[],[],[],[[1,2,4],[1,2,4,10],[4,5],[1,2,4,14],[4,5],[2,4,6,7],[2,4,6,7,22],[4,5],[2,4,6,27],[4,5],[2,4,6],[2,4],[4,5]],[]⟩) zbn7 fM Tryz.func74 (c:=(fb Tryz.f74)) (by kernel_rfl) (Lc:=0) trivial _ _ 12 _ _ _ _ _ _ [.pubB 4] (by rintro ⟨a0,a1⟩;kernel_rfl)
noncomputable def zbn8:EnvT:=⟨Tryz.prog,zw [(64,zju),(65,zac2),(67,zol)]⟩
theorem zbn9:(zbn8).Ok:=zd ⟨zmu,zagl,zu1,trivial⟩
def z2o (a0:zb) (a1:Packet) (a2:Int): Tr (zb×Int) :=
 (.bind (za8 a1) fun v1 =>
 (.ite (v1.2 != 0)
  (.leaf (a0,v1.2))
  (.bind (z3i a0.Out v1.1 (i64.wrap (a2+40))) fun v2 =>
  (.ite (v2.2 != 0)
   (.leaf (a0,v2.2))
   (.bind (zh7 a0) fun v3 =>
   (.leaf ({ v3 with Out:=v2.1 },0)))))))
def zaf (a0:zb) (a1:Packet) (a2:Int):=(z2o a0 a1 a2).run
def zwd:SpecT:=zn 0 (LQ.v (Par.ofLP zm) (LQ.v (Par.ofLP zdr) (Par.q intP))) 3 [] (u3 z2o) default (LQ.v (Par.ofLP zm) (Par.q intP)) 2 []
theorem zz8:ze Tryz.prog 69 (zwd).spec :=
 sK (A:=⟨[],[],[],[[2,3,4,6],[2,3,6,8,9],[2,3,6,8,9,17],[6,7],[3,6,9,10],[3,6,9,10,30],[6,7],[3,6,10],[3,6],[6,7]],[]⟩) zbn9 fM Tryz.func69 (c:=(fb Tryz.f69)) (by kernel_rfl) (Lc:=0) trivial _ _ 6 _ _ _ _ _ _ [.pubB 6] (by rintro ⟨a0,a1,a2⟩;kernel_rfl)
def zayb:List (List Nat):=[[1,2,4],[1,2,4,15],[4,5],[1,2,4,19],[4,5],[1,2,4,28],[4,5],[1,2,4,6],[1,2,4,6],[1,2,4,6],[1,4,6,39,40,41],[1,4,6,39,40,41,42],[1,4,6,8,39,40,41],[1,4,6,8,39,40,41],[1,4,6,8,39,40,41,55,56,57],[1,4,6,8,39,40,41,55,56,57,58],[1,4,6,8,10,39,40,41,55,56,57],[1,4,6,8,39,40,41,55,56,57],[1,4,6,8,39,40,41,55,56,57],[1,4,6,39,40,41],[1,4,6,39,40,41],[1,4,6],[1,4,6,89],[1,4,6,11,12],[1,4,6,11,103],[4,5],[1,4,6,11],[1,4,6],[4,5]]
noncomputable def zayc:EnvT:=⟨Tryz.prog,zw [(66,zgc),(67,zln),(68,zadl),(69,zwd)]⟩
theorem zayd:(zayc).Ok:=zd ⟨zh8,zra,zaku,zz8,trivial⟩
def zew (x0:Int) (x1:(List Packet)) (x2 x3:Int) (x4:(List Int)) (x5 x6:Int) (x7 x8:zb) (x9:Packet): Tr ((Int×(List Packet)×Int×Int×(List Int)×Int×Int×zb×zb×Packet)⊕(Int×(List Packet)×Int×Int×zb×zb×Packet)) :=
 (.ite (decide (x6 < x5))
  (.guard ((0:Int)≤x6∧x6 < ((Sl.len (.ints x4):Nat):Int))
  (.guard ((0:Int)≤(x4.getD x6.toNat 0)∧((x4.getD x6.toNat 0):Int) < 6)
  (.leaf (.inl (x0,x1,x2,x3,x4,x5,i64.wrap (x6+1),x7,{ x8 with Flags:=(x8.Flags.set (x4.getD x6.toNat 0) false) },x9)))))
  (.leaf (.inr (x0,x1,x2,x3,x7,x8,x9))))
def zke (x0:Int) (x1:(List Packet)) (x2 x3:Int) (x4:(List Int)) (x5 x6:Int) (x7 x8:zb) (x9:Packet):=zbl (fun s:Int×(List Packet)×Int×Int×(List Int)×Int×Int×zb×zb×Packet=>(zew s.1 s.2.1 s.2.2.1 s.2.2.2.1 s.2.2.2.2.1 s.2.2.2.2.2.1 s.2.2.2.2.2.2.1 s.2.2.2.2.2.2.2.1 s.2.2.2.2.2.2.2.2.1 s.2.2.2.2.2.2.2.2.2).run) (x0,x1,x2,x3,x4,x5,x6,x7,x8,x9)
def zbee:Ann:=⟨[],[],[],zayb,[(13,[600006]),(23,[1600006])]⟩
def zbef:=EndD.mk (LQ.map (LQ.v intP (LQ.kp 0 0 (LQ.kp 1 0 (LQ.kp 2 0 (LQ.v zal (LQ.v intP (LQ.v intP (LQ.v za7 (LQ.v intP (LQ.v intP (LQ.seq (LP.q zm) (LQ.v boolP (LQ.v boolP (LQ.v intP (LQ.v intP (LQ.v intP (LQ.v zf (LQ.k (LQ.c (.own 3)) (LQ.k (LQ.c (.own 4)) (LQ.seq (LP.q (a6L (LP.one boolP))) (LQ.k (LQ.c (.own 5)) (LQ.k (LQ.c (.own 6)) (LQ.v intP (LQ.v boolP (LQ.seq (LP.q zy8) (LQ.seq (LP.q zdr) (LQ.v zal (LQ.v znd (LQ.v z81 (Par.q za7)))))))))))))))))))))))))))))) (fun x=>(x.1,x.2.1,x.2.2.1,x.2.2.2.1,(d4 x).1,(d4 x).2.1,(d4 x).2.2.1,(d4 x).2.2.2.1,(⟨(d8 x).1,(d8 x).2.1,(d8 x).2.2.1,(d8 x).2.2.2.1,(d12 x).1,(d12 x).2.1,(d16 x).2.2.2.1,(d20 x).1,(d12 x).2.2.1,(⟨(d20 x).2.1,(d20 x).2.2,(d12 x).2.2.2.1,(d16 x).1⟩:zbs),(d16 x).2.1⟩:zb),(d16 x).2.2.1)) (fun y=>(y.1,y.2.1,y.2.2.1,y.2.2.2.1,(d4 y).1,(d4 y).2.1,(d4 y).2.2.1,(d4 y).2.2.2.1,(d8 y).1.On,(d8 y).1.Gone,(d8 y).1.Height,(d8 y).1.Time,(d8 y).1.Id,(d8 y).1.Set,(d8 y).1.Flags,(d8 y).1.Out.Got,(d8 y).1.Out.Closed,(d8 y).1.Seen,(d8 y).2,(d8 y).1.Pending,(d8 y).1.Ripes,(d8 y).1.Out.Said,(d8 y).1.Out.Due)) (fun _=>rfl)) ⟨[1,4,6,8,39,40,41,55,56,57],[.nilcell 6 6 110 (.packets []),.nilcell 6 7 119 (.ripes []),.nilcell 6 14 9 (.strs []),.nilcell 6 15 3 (.ints []),.pub 39,.nilsl 39 (.packets []),.pub 55,.nilsl 55 (.ints [])]⟩ [.cells 70 22,.cells 70 22,.cells 110 6,.rows 110,.rows 119,.rows 9,.rows 3]
def zaye:=EndD.mk (LQ.map (LQ.v intP (LQ.kp 0 0 (LQ.kp 1 0 (LQ.kp 2 0 (LQ.v zal (LQ.v intP (LQ.v intP (LQ.seq (LP.q zm) (LQ.v boolP (LQ.v boolP (LQ.v intP (LQ.v intP (LQ.v intP (LQ.v zf (LQ.k (LQ.c (.own 3)) (LQ.k (LQ.c (.own 4)) (LQ.seq (LP.q (a6L (LP.one boolP))) (LQ.k (LQ.c (.own 5)) (LQ.k (LQ.c (.own 6)) (LQ.v intP (LQ.v boolP (LQ.seq (LP.q zy8) (LQ.seq (LP.q zdr) (LQ.v zal (LQ.v znd (LQ.v z81 (Par.q za7))))))))))))))))))))))))))) (fun x=>(x.1,x.2.1,x.2.2.1,x.2.2.2.1,(d4 x).1,(⟨(d4 x).2.1,(d4 x).2.2.1,(d4 x).2.2.2.1,(d8 x).1,(d8 x).2.1,(d8 x).2.2.1,(d16 x).1,(d16 x).2.1,(d8 x).2.2.2.1,(⟨(d16 x).2.2.1,(d16 x).2.2.2,(d12 x).1,(d12 x).2.1⟩:zbs),(d12 x).2.2.1⟩:zb),(d12 x).2.2.2.1)) (fun y=>(y.1,y.2.1,y.2.2.1,y.2.2.2.1,(d4 y).1,(d4 y).2.1.On,(d4 y).2.1.Gone,(d4 y).2.1.Height,(d4 y).2.1.Time,(d4 y).2.1.Id,(d4 y).2.1.Set,(d4 y).2.1.Flags,(d4 y).2.1.Out.Got,(d4 y).2.1.Out.Closed,(d4 y).2.1.Seen,(d4 y).2.2,(d4 y).2.1.Pending,(d4 y).2.1.Ripes,(d4 y).2.1.Out.Said,(d4 y).2.1.Out.Due)) (fun _=>rfl)) ⟨[1,4,6,8,39,40,41],[.nilcell 6 6 110 (.packets []),.nilcell 6 7 119 (.ripes []),.nilcell 6 14 9 (.strs []),.nilcell 6 15 3 (.ints []),.pub 39,.nilsl 39 (.packets [])]⟩ [.cells 70 22,.cells 70 22,.cells 110 6,.rows 110,.rows 119,.rows 9,.rows 3]
def za20:St→Option LR:=L1 111 11 0 zbef (.exit 2) zaye (u10 zew)
def zs172a:=sub (fb Tryz.f26) [0,1,0,1,1,0,0,1,1,0,0,1,0,1,1,1,1,1,1,1]
theorem zbeg:zk (zayc).env 0 zs172a za20 :=
 zb5 (A:=zbee) zayd fM trivial (k:=z8 zs172a) (by kernel_rfl) rfl (by rintro ⟨x0,x1,x2,x3,x4,x5,x6,x7,x8,x9⟩;kernel_rfl)
def zex (x0:Int) (x1:(List Packet)) (x2 x3:Int) (x4 x5:zb): Tr ((Int×(List Packet)×Int×Int×zb×zb)⊕(Int×zb×zb)) :=
 (.ite (decide (x3 < x2))
  (.guard ((0:Int)≤x3∧x3 < ((Sl.len (.packets x1):Nat):Int))
  (.guard ((zwa x5.Set ((x1.getD x3.toNat default).Set)).isSome=true)
  (.bind (zke x0 x1 x2 x3 ((x1.getD x3.toNat default).Done) ((((x1.getD x3.toNat default).Done).length:Nat):Int) 0 x4 ({ x5 with Id:=(x1.getD x3.toNat default).Id,Set:=((zwa x5.Set ((x1.getD x3.toNat default).Set)).getD default) }) (x1.getD x3.toNat default)) fun v3 =>
  (.guard ((Sl.len (.ripes v3.2.2.2.2.2.1.Ripes)+Sl.len (.ripes [(⟨v3.2.2.2.2.2.2.Id,i64.wrap (v3.1+15)⟩:Ripe)]))*16≤140737488355328)
  (.leaf (.inl (v3.1,v3.2.1,v3.2.2.1,i64.wrap (v3.2.2.2.1+1),v3.2.2.2.2.1,{ v3.2.2.2.2.2.1 with Ripes:=v3.2.2.2.2.2.1.Ripes++[(⟨v3.2.2.2.2.2.2.Id,i64.wrap (v3.1+15)⟩:Ripe)] })))))))
  (.leaf (.inr (x0,x4,x5))))
def zkf (x0:Int) (x1:(List Packet)) (x2 x3:Int) (x4 x5:zb):=zbl (fun s:Int×(List Packet)×Int×Int×zb×zb=>(zex s.1 s.2.1 s.2.2.1 s.2.2.2.1 s.2.2.2.2.1 s.2.2.2.2.2).run) (x0,x1,x2,x3,x4,x5)
def zbeh:Ann:=⟨[([0,1,0,1,1,0,0,1,1,0,0,1,0,1,1,1,1,1,1,1],za20)],[],[],zayb,[(13,[600006]),(23,[1600006])]⟩
def zbei:=EndD.mk (LQ.map (LQ.v intP (LQ.kp 0 0 (LQ.kp 1 0 (LQ.v zal (LQ.v intP (LQ.v intP (LQ.seq (LP.q zm) (LQ.v boolP (LQ.v boolP (LQ.v intP (LQ.v intP (LQ.v intP (LQ.v zf (LQ.k (LQ.c (.own 2)) (LQ.k (LQ.c (.own 3)) (LQ.seq (LP.q (a6L (LP.one boolP))) (LQ.k (LQ.c (.own 4)) (LQ.k (LQ.c (.own 5)) (LQ.v intP (LQ.v boolP (LQ.seq (LP.q zy8) (LQ.v zal (LQ.v znd (LQ.v z81 (Par.q za7))))))))))))))))))))))))) (fun x=>(x.1,x.2.1,x.2.2.1,x.2.2.2.1,(d4 x).1,(⟨(d4 x).2.1,(d4 x).2.2.1,(d4 x).2.2.2.1,(d8 x).1,(d8 x).2.1,(d8 x).2.2.1,(d12 x).2.2.2.1,(d16 x).1,(d8 x).2.2.2.1,(⟨(d16 x).2.1,(d16 x).2.2,(d12 x).1,(d12 x).2.1⟩:zbs),(d12 x).2.2.1⟩:zb))) (fun y=>(y.1,y.2.1,y.2.2.1,y.2.2.2.1,(d4 y).1,(d4 y).2.On,(d4 y).2.Gone,(d4 y).2.Height,(d4 y).2.Time,(d4 y).2.Id,(d4 y).2.Set,(d4 y).2.Flags,(d4 y).2.Out.Got,(d4 y).2.Out.Closed,(d4 y).2.Seen,(d4 y).2.Pending,(d4 y).2.Ripes,(d4 y).2.Out.Said,(d4 y).2.Out.Due)) (fun _=>rfl)) ⟨[1,4,6,39,40,41],[.pubC 6 5,.nilcell 6 6 110 (.packets []),.nilcell 6 7 119 (.ripes []),.nilcell 6 14 9 (.strs []),.nilcell 6 15 3 (.ints []),.pub 39,.nilsl 39 (.packets [])]⟩ [.cells 70 22,.cells 70 22,.rows 110,.rows 119,.rows 9,.rows 3]
def zayf:=EndD.mk (LQ.map (LQ.v intP (LQ.kp 0 0 (LQ.kp 1 0 (LQ.seq (LP.q zm) (LQ.v boolP (LQ.v boolP (LQ.v intP (LQ.v intP (LQ.v intP (LQ.v zf (LQ.k (LQ.c (.own 2)) (LQ.k (LQ.c (.own 3)) (LQ.seq (LP.q (a6L (LP.one boolP))) (LQ.k (LQ.c (.own 4)) (LQ.k (LQ.c (.own 5)) (LQ.v intP (LQ.v boolP (LQ.seq (LP.q zy8) (LQ.v zal (LQ.v znd (LQ.v z81 (Par.q za7)))))))))))))))))))))) (fun x=>(x.1,x.2.1,(⟨x.2.2.1,x.2.2.2.1,(d4 x).1,(d4 x).2.1,(d4 x).2.2.1,(d4 x).2.2.2.1,(d12 x).1,(d12 x).2.1,(d8 x).1,(⟨(d12 x).2.2.1,(d12 x).2.2.2,(d8 x).2.1,(d8 x).2.2.1⟩:zbs),(d8 x).2.2.2.1⟩:zb))) (fun y=>(y.1,y.2.1,y.2.2.On,y.2.2.Gone,y.2.2.Height,y.2.2.Time,y.2.2.Id,y.2.2.Set,y.2.2.Flags,y.2.2.Out.Got,y.2.2.Out.Closed,y.2.2.Seen,y.2.2.Pending,y.2.2.Ripes,y.2.2.Out.Said,y.2.2.Out.Due)) (fun _=>rfl)) ⟨[1,4,6],[.pubC 6 5,.nilcell 6 6 110 (.packets []),.nilcell 6 7 119 (.ripes []),.nilcell 6 14 9 (.strs []),.nilcell 6 15 3 (.ints [])]⟩ [.cells 70 22,.cells 70 22,.rows 110,.rows 119,.rows 9,.rows 3]
def za21:St→Option LR:=L1 111 11 0 zbei (.exit 0) zayf (u6 zex)
def zs172b:=sub (fb Tryz.f26) [0,1,0,1,1,1,1,1,1,1]
theorem zbej:zk (zayc).env 0 zs172b za21 :=
 zb5 (A:=zbeh) zayd fM ⟨zbeg,trivial⟩ (k:=z8 zs172b) (by kernel_rfl) rfl (by rintro ⟨x0,x1,x2,x3,x4,x5⟩;kernel_rfl)
def zdg (x0:Int) (x1 x2:zb): Tr ((Int×zb×zb)⊕((Int×zb)⊕(zb×zb))) :=
 (.guard (((decide (((x2.Ripes.length:Nat):Int) > 0))=true→((0:Int)≤0∧0 < ((Sl.len (.ripes x2.Ripes):Nat):Int))∧True))
 (.ite ((decide (((x2.Ripes.length:Nat):Int) > 0))&&(decide (((x2.Ripes.getD 0 default).Due)≤x0)))
  (.guard ((0:Int)≤0∧0 < ((Sl.len (.ripes x2.Ripes):Nat):Int))
  (.guard ((zaf x2 (⟨2,(x2.Ripes.getD 0 default).Id,0,0,[],[]⟩:Packet) x0).isSome=true)
  (.ite ((((zaf x2 (⟨2,(x2.Ripes.getD 0 default).Id,0,0,[],[]⟩:Packet) x0).getD default).2) != 0)
   (.leaf (.inr (.inl (0,x2))))
   (.guard ((0:Int)≤1∧1≤(((Sl.len (.ripes ((((zaf x2 (⟨2,(x2.Ripes.getD 0 default).Id,0,0,[],[]⟩:Packet) x0).getD default).1).Ripes)):Nat):Int):Int)∧((Sl.len (.ripes ((((zaf x2 (⟨2,(x2.Ripes.getD 0 default).Id,0,0,[],[]⟩:Packet) x0).getD default).1).Ripes)):Nat):Int)≤((Sl.len (.ripes ((((zaf x2 (⟨2,(x2.Ripes.getD 0 default).Id,0,0,[],[]⟩:Packet) x0).getD default).1).Ripes)):Nat):Int))
   (.leaf (.inl (x0,x1,{ ((((zaf x2 (⟨2,(x2.Ripes.getD 0 default).Id,0,0,[],[]⟩:Packet) x0).getD default).1):zb) with Ripes:=((((((zaf x2 (⟨2,(x2.Ripes.getD 0 default).Id,0,0,[],[]⟩:Packet) x0).getD default).1).Ripes).drop 1).take ((((Sl.len (.ripes ((((zaf x2 (⟨2,(x2.Ripes.getD 0 default).Id,0,0,[],[]⟩:Packet) x0).getD default).1).Ripes)):Nat):Int)).toNat - 1)) })))))))
  (.leaf (.inr (.inr (x1,x2))))))
def zbq (x0:Int) (x1 x2:zb):=zbl (fun s:Int×zb×zb=>(zdg s.1 s.2.1 s.2.2).run) (x0,x1,x2)
def zbek:Ann:=⟨[],[],[],zayb,[(13,[600006]),(23,[1600006])]⟩
def zbel:=EndD.mk (LQ.v intP (LQ.kp 0 0 (LQ.kp 1 0 (LQ.seq (LP.q zm) (LP.q zm))))) ⟨[1,4,6],[.pubC 6 6,.pubC 6 7,.pubC 6 14,.pubC 6 15]⟩ [.cells 70 22,.cells 70 22]
def zayg:=EndD.mk (LQ.kp 0 0 (LQ.v intP (LP.q zm))) ⟨[4,5],[.pubB 4]⟩ [.cells 70 22]
def zayh:=EndD.mk (LQ.kp 0 0 (LQ.kp 1 0 (LQ.seq (LP.q zm) (LP.q zm)))) ⟨[4,6],[.pubC 6 6,.pubC 6 7,.pubC 6 14,.pubC 6 15]⟩ [.cells 70 22,.cells 70 22]
def za22:St→Option LR:=L2 111 11 0 zbel .ret zayg (.exit 4) zayh (u3 zdg)
def zs172c:=sub (fb Tryz.f26) [0,0,1,1,1,1,1,1,1,1,1]
theorem zbem:zk (zayc).env 0 zs172c za22 :=
 zgs (A:=zbek) zayd fM trivial (k:=z8 zs172c) (by kernel_rfl) rfl rfl (by rintro ⟨x0,x1,x2⟩;kernel_rfl)
def zp1 (a0:zb) (a1:Int): Tr (zb×Int) :=
 (.bind (zdv a0) fun v1 =>
 (.ite (!v1)
  (.leaf (a0,2))
  (.ite (!a0.On)
   (.leaf (a0,4))
   (.ite ((decide (a1 < a0.Time))||(decide (a1 > 1099511627776)))
    (.leaf (a0,2))
    (.bind (zgb a0) fun v2 =>
    (.bind (zkf a1 a0.Pending ((a0.Pending.length:Nat):Int) 0 (default:zb) ({ v2 with Height:=i64.wrap (v2.Height+1),Time:=a1 })) fun v4 =>
    (.two (zbq v4.1 v4.2.1 ({ v4.2.2 with Pending:=[] })) (fun v5 =>
     (.leaf (v5.2,v5.1))) (fun v6 =>
     (.leaf (v6.2,0))))))))))
def zag (a0:zb) (a1:Int):=(zp1 a0 a1).run
def zyg:SpecT:=zn 0 (LQ.v (Par.ofLP zm) (Par.q intP)) 2 [] (u2 zp1) default (LQ.v (Par.ofLP zm) (Par.q intP)) 2 []
theorem z73:ze Tryz.prog 26 (zyg).spec :=
 sK (A:=⟨[([0,1,0,1,1,1,1,1,1,1],za21),([0,0,1,1,1,1,1,1,1,1,1],za22)],[],[],zayb,[(13,[600006]),(23,[1600006])]⟩) zayd fM Tryz.func26 (c:=(fb Tryz.f26)) (by kernel_rfl) (Lc:=0) ⟨zbej,zbem,trivial⟩ _ _ 11 _ _ _ _ _ _ [.pubB 4] (by rintro ⟨a0,a1⟩;kernel_rfl)
noncomputable def zboa:EnvT:=⟨Tryz.prog,zw [(66,zgc),(70,z2l),(69,zwd)]⟩
theorem zbob:(zboa).Ok:=zd ⟨zh8,z3j,zz8,trivial⟩
def z2p (a0:zb) (a1 a2:Int): Tr (zb×Int) :=
 (.bind (zdv a0) fun v1 =>
 (.ite (((!v1)||(decide (a2 < 0)))||(decide (a2 > 1099511627776)))
  (.leaf (a0,2))
  (.guard (((((!a0.On)||(decide (a1 < 0)))||(decide (a1 > 5)))=false→((zdf a0.Set).isSome=true)∧True))
  (.guard (((((!a0.On)||(decide (a1 < 0)))||(decide (a1 > 5)))=false→((0:Int)≤a1∧(a1:Int) < 6)∧True))
  (.ite ((((!a0.On)||(decide (a1 < 0)))||(decide (a1 > 5)))||((((zdf a0.Set).getD default).get a1)==0))
   (.leaf (a0,4))
   (.guard ((0:Int)≤a1∧(a1:Int) < 6)
   (.ite (a0.Flags.get a1)
    (.leaf (a0,5))
    (.guard ((zdf a0.Set).isSome=true)
    (.guard ((0:Int)≤a1∧(a1:Int) < 6)
    (.guard ((zaf a0 (⟨3,a0.Id,a1,((zdf a0.Set).getD default).get a1,[],[]⟩:Packet) a2).isSome=true)
    (.ite ((((zaf a0 (⟨3,a0.Id,a1,((zdf a0.Set).getD default).get a1,[],[]⟩:Packet) a2).getD default).2)==0)
     (.guard ((0:Int)≤a1∧(a1:Int) < 6)
     (.leaf ({ ((((zaf a0 (⟨3,a0.Id,a1,((zdf a0.Set).getD default).get a1,[],[]⟩:Packet) a2).getD default).1):zb) with Flags:=(((((zaf a0 (⟨3,a0.Id,a1,((zdf a0.Set).getD default).get a1,[],[]⟩:Packet) a2).getD default).1).Flags).set a1 true) },((zaf a0 (⟨3,a0.Id,a1,((zdf a0.Set).getD default).get a1,[],[]⟩:Packet) a2).getD default).2)))
     (.leaf ((((zaf a0 (⟨3,a0.Id,a1,((zdf a0.Set).getD default).get a1,[],[]⟩:Packet) a2).getD default).1),((zaf a0 (⟨3,a0.Id,a1,((zdf a0.Set).getD default).get a1,[],[]⟩:Packet) a2).getD default).2)))))))))))))
def zk9 (a0:zb) (a1 a2:Int):=(z2p a0 a1 a2).run
def zaam:SpecT:=zn 0 (LQ.v (Par.ofLP zm) (LQ.v intP (Par.q intP))) 3 [] (u3 z2p) default (LQ.v (Par.ofLP zm) (Par.q intP)) 2 []
theorem zair:ze Tryz.prog 27 (zaam).spec :=
 sK (A:=⟨[],[],[],[[1,2,3,6],[1,2,3,6,20],[6,7],[1,2,3,6,40],[6,7],[1,2,3,6,45],[6,7],[1,6,8,9],[1,6,8,9,63],[6,8,9],[6,7]],[]⟩) zbob fM Tryz.func27 (c:=(fb Tryz.f27)) (by kernel_rfl) (Lc:=0) trivial _ _ 5 _ _ _ _ _ _ [.pubB 6] (by rintro ⟨a0,a1,a2⟩;kernel_rfl)
noncomputable def zboc:EnvT:=⟨Tryz.prog,zw [(66,zgc),(70,z2l),(69,zwd)]⟩
theorem zbod:(zboc).Ok:=zd ⟨zh8,z3j,zz8,trivial⟩
def zxl (a0:zb) (a1 a2 a3:Int): Tr (zb×Int) :=
 (.bind (zdv a0) fun v1 =>
 (.ite (((!v1)||(decide (a3 < 0)))||(decide (a3 > 1099511627776)))
  (.leaf (a0,2))
  (.ite (((!a0.On)||(decide (a1 < 0)))||(decide (a1 > 5)))
   (.leaf (a0,4))
   (.ite ((decide (a2 < 1))||(decide (a2 > a0.Id)))
    (.leaf (a0,2))
    (.bind (zdf a0.Set) fun v2 =>
    (.guard ((0:Int)≤a1∧(a1:Int) < 6)
    (.ite ((v2.get a1)==0)
     (.bind (zaf a0 (⟨4,a2,a1,1,[],[]⟩:Packet) a3) fun v3 =>
     (.leaf (v3.1,v3.2)))
     (.bind (zaf a0 (⟨4,a2,a1,v2.get a1,[],[]⟩:Packet) a3) fun v4 =>
     (.leaf (v4.1,v4.2))))))))))
def zhg (a0:zb) (a1 a2 a3:Int):=(zxl a0 a1 a2 a3).run
def z4s:SpecT:=zn 0 (LQ.v (Par.ofLP zm) (LQ.v intP (LQ.v intP (Par.q intP)))) 4 [] (u4 zxl) default (LQ.v (Par.ofLP zm) (Par.q intP)) 2 []
theorem zadm:ze Tryz.prog 28 (z4s).spec :=
 sK (A:=⟨[],[],[],[[1,2,3,4,8],[1,2,3,4,8,21],[8,9],[1,2,3,4,8,33],[8,9],[1,2,3,4,8,42],[8,9],[1,2,3,4,8,10],[1,2,3,4,8,10,50],[1,2,3,4,8,10],[8,9]],[]⟩) zbod fM Tryz.func28 (c:=(fb Tryz.f28)) (by kernel_rfl) (Lc:=0) trivial _ _ 4 _ _ _ _ _ _ [.pubB 8] (by rintro ⟨a0,a1,a2,a3⟩;kernel_rfl)
noncomputable def zboe:EnvT:=⟨Tryz.prog,zw [(67,zol)]⟩
theorem zbof:(zboe).Ok:=zd ⟨zu1,trivial⟩
def zlo (a0:zb): Tr (zb) :=
 (.ite (a0.On)
  (.bind (zh7 a0) fun v1 =>
  (.leaf ({ v1 with On:=false,Gone:=true,Out:={ v1.Out with Closed:=true } })))
  (.leaf a0))
def zbr (a0:zb):=(zlo a0).run
def zsq:SpecT:=zn 0 (Par.q (Par.ofLP zm)) 1 [] zlo default (Par.q (Par.ofLP zm)) 1 []
theorem z2q:ze Tryz.prog 32 (zsq).spec :=
 sK (A:=⟨[],[],[],[[1,2],[1,2,4],[1,2],[1,2],[2]],[]⟩) zbof fM Tryz.func32 (c:=(fb Tryz.f32)) (by kernel_rfl) (Lc:=0) trivial _ _ 4 _ _ _ _ _ _ [.pubB 2] (by rintro a0;kernel_rfl)
end
