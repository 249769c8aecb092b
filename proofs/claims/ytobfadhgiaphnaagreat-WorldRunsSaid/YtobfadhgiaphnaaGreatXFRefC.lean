/-
  The functions, each by its tree.
-/
import Derived.Test.YtobfadhgiaphnaaGreatXAbFun
import Derived.Test.YtobfadhgiaphnaaGreatXAbStructs
import Derived.Test.YtobfadhgiaphnaaGreatXFCodec
import Derived.Test.YtobfadhgiaphnaaGreatXFLine
import Derived.Test.YtobfadhgiaphnaaGreatXFRatio
import Derived.Test.YtobfadhgiaphnaaGreatXFRefA
import Derived.Test.YtobfadhgiaphnaaGreatXFacts
namespace Go.Proofs.YtobfadhgiaphnaaGreat.Ab
open Go Go.RowKit
set_option maxRecDepth 100000
set_option linter.unusedVariables false
set_option linter.unusedSimpArgs false
noncomputable section
def za3a:List (List Nat):=[[0,1],[1,5],[5,12,13,14],[5,12,13,14,15],[5,7,12,13,14],[5,7,12,13,14,25],[5,12,13,14],[5,12,13,14],[5,8],[5,8,32],[5,8,32,33],[5,8,9,32],[5,8,9,32,38],[5,8,32],[5,8,32],[4]]
noncomputable def za3b:EnvT:=⟨Tryz.prog,zw [(70,z0n)]⟩
theorem za3c:(za3b).Ok:=zd ⟨z1j,trivial⟩
def zk7 (x0:(List Power)) (x1 x2:Int) (x3:(A6 Int)): Tr (((List Power)×Int×Int×(A6 Int))⊕((A6 Int))) :=
 (.ite (decide (x2 < x1))
  (.guard ((0:Int)≤x2∧x2 < ((Sl.len (.powers x0):Nat):Int))
  (.ite ((decide (((x0.getD x2.toNat default).V)≥0))&&(decide (((x0.getD x2.toNat default).V) < 6)))
   (.guard ((0:Int)≤((x0.getD x2.toNat default).V)∧(((x0.getD x2.toNat default).V):Int) < 6)
   (.leaf (.inl (x0,x1,IntKind.i64.wrap (x2+1),(x3.set ((x0.getD x2.toNat default).V) ((x0.getD x2.toNat default).N))))))
   (.leaf (.inl (x0,x1,IntKind.i64.wrap (x2+1),x3)))))
  (.leaf (.inr x3)))
def ztf (x0:(List Power)) (x1 x2:Int) (x3:(A6 Int)):=zbp (fun s:(List Power)×Int×Int×(A6 Int)=>(zk7 s.1 s.2.1 s.2.2.1 s.2.2.2).run) (x0,x1,x2,x3)
def za84:Ann:=⟨[],[],[],za3a,[]⟩
def za85:=EndD.mk (LQ.kp 0 0 (LQ.v zg (LQ.v intP (LQ.v intP (LP.q (a6L (LP.one intP))))))) ⟨[5,12,13,14],[.pub 12,.nilsl 12 (.powers [])]⟩ [.cells 44 6]
def zau8:=EndD.mk (LQ.kp 0 0 (LP.q (a6L (LP.one intP)))) ⟨[5],[]⟩ [.cells 44 6]
def zazm:St→Option LR:=L1 49 6 0 za85 (.exit 0) zau8 (u4 zk7)
def zs150a:=sub (fb Tryz.f68) [0,1,0,1,1]
theorem za86:zk (za3b).env 0 zs150a zazm :=
 zb2 (A:=za84) za3c fM trivial (k:=zab zs150a) (by kernel_rfl) rfl (by rintro ⟨x0,x1,x2,x3⟩;kernel_rfl)
def zk8 (x0:Int) (x1:(A6 Int)) (x2:(List Power)): Tr ((Int×(A6 Int)×(List Power))⊕((List Power))) :=
 (.ite (decide (x0 < 6))
  (.guard ((0:Int)≤x0∧(x0:Int) < 6)
  (.ite (decide ((x1.get x0) > 0))
   (.guard ((0:Int)≤x0∧(x0:Int) < 6)
   (.guard ((Sl.len (.powers x2)+Sl.len (.powers [(⟨x0,x1.get x0⟩:Power)]))*16≤140737488355328)
   (.leaf (.inl (IntKind.i64.wrap (x0+1),x1,x2++[(⟨x0,x1.get x0⟩:Power)])))))
   (.leaf (.inl (IntKind.i64.wrap (x0+1),x1,x2)))))
  (.leaf (.inr x2)))
def ztg (x0:Int) (x1:(A6 Int)) (x2:(List Power)):=zbp (fun s:Int×(A6 Int)×(List Power)=>(zk8 s.1 s.2.1 s.2.2).run) (x0,x1,x2)
def za87:Ann:=⟨[],[],[],za3a,[]⟩
def za88:=EndD.mk (LQ.kp 0 0 (LQ.k (LQ.c (.own 1)) (LQ.v intP (LQ.seq (LP.q (a6L (LP.one intP))) (Par.q zg))))) ⟨[5,8,32],[.nilown 8 154 (.powers [])]⟩ [.cells 44 6,.rows 154]
def zau9:=EndD.mk (LQ.k (LQ.c (.own 0)) (Par.q zg)) ⟨[8],[.nilown 8 154 (.powers [])]⟩ [.rows 154]
def zazn:St→Option LR:=L1 49 6 0 za88 (.exit 2) zau9 (u3 zk8)
def zs150b:=sub (fb Tryz.f68) [0,1,0,1,1,1,1]
theorem za89:zk (za3b).env 0 zs150b zazn :=
 zb2 (A:=za87) za3c fM trivial (k:=zab zs150b) (by kernel_rfl) rfl (by rintro ⟨x0,x1,x2⟩;kernel_rfl)
def z31 (a0 a1:(List Power)): Tr ((List Power)) :=
 (.bind (zc2 a0) fun v1 =>
 (.bind (ztf a1 ((a1.length:Nat):Int) 0 v1) fun v2 =>
 (.bind (ztg 0 v2 []) fun v3 =>
 (.leaf v3))))
def zuk (a0 a1:(List Power)):=(z31 a0 a1).run
def zabd:SpecT:=zm 0 (LQ.v zg (Par.q zg)) 2 [] (u2 z31) default (Par.q zg) 1 []
theorem zaik:ze Tryz.prog 68 (zabd).spec :=
 sK (A:=⟨[([0,1,0,1,1],zazm),([0,1,0,1,1,1,1],zazn)],[],[],za3a,[]⟩) za3c fM Tryz.func68 (c:=(fb Tryz.f68)) (by kernel_rfl) (Lc:=0) ⟨za86,za89,trivial⟩ _ _ 6 _ _ _ _ _ _ [.pub 4] (by rintro ⟨a0,a1⟩;kernel_rfl)
def za9b:List (List Nat):=[[0],[0,3],[3,6,7,8],[3,6,7,8,9],[3,5,6,7,8],[5,6,7,8,30],[2],[3,6,7,8],[3,6,7,8],[2]]
def zib (x0:Int) (x1:(List Power)) (x2 x3:Int): Tr ((Int×(List Power)×Int×Int)⊕((Bool)⊕(Unit))) :=
 (.ite (decide (x3 < x2))
  (.guard ((0:Int)≤x3∧x3 < ((Sl.len (.powers x1):Nat):Int))
  (.ite ((((decide (((x1.getD x3.toNat default).V)≤x0))||(decide (((x1.getD x3.toNat default).V) > 5)))||(decide (((x1.getD x3.toNat default).N) < 1)))||(decide (((x1.getD x3.toNat default).N) > 1125899906842624)))
   (.leaf (.inr (.inl false)))
   (.leaf (.inl ((x1.getD x3.toNat default).V,x1,x2,IntKind.i64.wrap (x3+1))))))
  (.leaf (.inr (.inr ()))))
def zth (x0:Int) (x1:(List Power)) (x2 x3:Int):=zbp (fun s:Int×(List Power)×Int×Int=>(zib s.1 s.2.1 s.2.2.1 s.2.2.2).run) (x0,x1,x2,x3)
def za9c:Ann:=⟨[],[],[],za9b,[]⟩
def za9d:=EndD.mk (LQ.v intP (LQ.v zg (LQ.v intP (Par.q intP)))) ⟨[3,6,7,8],[.pub 6,.nilsl 6 (.powers [])]⟩ []
def zava:=EndD.mk (Par.q boolP) ⟨[2],[]⟩ []
def zavb:EndD (Unit):=⟨LQ.nil,⟨[],[]⟩,[]⟩
def zazo:St→Option LR:=L2 34 3 0 za9d .ret zava (.exit 0) zavb (u4 zib)
def zs151a:=sub (fb Tryz.f97) [0,1,0,1,1]
theorem za9e:zk (zyN).env 0 zs151a zazo :=
 zkf (A:=za9c) zhN fM trivial (k:=zab zs151a) (by kernel_rfl) rfl rfl (by rintro ⟨x0,x1,x2,x3⟩;kernel_rfl)
def zx8 (a0:(List Power)): Tr (Bool) :=
 (.two (zth (-1) a0 ((a0.length:Nat):Int) 0) (fun v1 =>
  (.leaf v1)) (fun v2 =>
  (.leaf true)))
def zds (a0:(List Power)):=(zx8 a0).run
def z32:SpecT:=zm 0 (Par.q zg) 1 [] zx8 default (Par.q boolP) 1 []
theorem z8f:ze Tryz.prog 97 (z32).spec :=
 sK (A:=⟨[([0,1,0,1,1],zazo)],[],[],za9b,[]⟩) zhN fM Tryz.func97 (c:=(fb Tryz.f97)) (by kernel_rfl) (Lc:=0) ⟨za9e,trivial⟩ _ _ 3 _ _ _ _ _ _ [] (by rintro a0;kernel_rfl)
def za9f:List (List Nat):=[[1,2],[1,2],[1,2,3],[1,2,3,19,20,21],[1,2,3,19,20,21,22],[1,2,3,5,19,20,21],[1,2,3,19,20,21],[1,2,3,19,20,21],[1,2],[2]]
noncomputable def za9g:EnvT:=⟨Tryz.prog,zw [(76,zh2),(101,zho)]⟩
theorem za9h:(za9g).Ok:=zd ⟨zi7,zj5,trivial⟩
def zdt (x0:(List Packet)) (x1 x2:Int) (x3 x4:zb) (x5:(List Packet)): Tr (((List Packet)×Int×Int×zb×zb×(List Packet))⊕(zb×zb×(List Packet))) :=
 (.ite (decide (x2 < x1))
  (.guard ((0:Int)≤x2∧x2 < ((Sl.len (.packets x0):Nat):Int))
  (.bind (za6 (x0.getD x2.toNat default)) fun v1 =>
  (.guard ((Sl.len (.packets x5)+Sl.len (.packets [v1]))*80≤140737488355328)
  (.leaf (.inl (x0,x1,IntKind.i64.wrap (x2+1),x3,x4,x5++[v1]))))))
  (.leaf (.inr (x3,x4,x5))))
def zig (x0:(List Packet)) (x1 x2:Int) (x3 x4:zb) (x5:(List Packet)):=zbp (fun s:(List Packet)×Int×Int×zb×zb×(List Packet)=>(zdt s.1 s.2.1 s.2.2.1 s.2.2.2.1 s.2.2.2.2.1 s.2.2.2.2.2).run) (x0,x1,x2,x3,x4,x5)
def za9i:Ann:=⟨[],[],[],za9f,[]⟩
def za9j:=EndD.mk (LQ.map (LQ.kp 0 0 (LQ.kp 1 0 (LQ.k (LQ.c (.own 2)) (LQ.v zaz (LQ.v intP (LQ.v intP (LQ.v boolP (LQ.v boolP (LQ.v intP (LQ.v intP (LQ.v intP (LQ.k (LQ.c (.own 3)) (LQ.v zaz (LQ.k (LQ.c (.own 4)) (LQ.seq (LP.q (a6L (LP.one boolP))) (LQ.k (LQ.c (.own 5)) (LQ.k (LQ.c (.own 6)) (LQ.v intP (LQ.v boolP (LQ.seq (LP.q zzm) (LQ.seq (LP.q zn) (LQ.v zaz (LQ.v zg (LQ.v znw (LQ.v z6x (Par.q zbc)))))))))))))))))))))))))) (fun x=>(x.1,x.2.1,x.2.2.1,(⟨x.2.2.2.1,(d4 x).1,(d4 x).2.1,(d4 x).2.2.1,(d4 x).2.2.2.1,(d12 x).2.2.2.1,(d8 x).1,(d16 x).1,(d8 x).2.1,(⟨(d16 x).2.1,(d16 x).2.2,(d8 x).2.2.1,(d8 x).2.2.2.1⟩:zcl),(d12 x).1⟩:zb),(d12 x).2.1,(d12 x).2.2.1)) (fun y=>(y.1,y.2.1,y.2.2.1,y.2.2.2.1.On,y.2.2.2.1.Gone,y.2.2.2.1.Height,y.2.2.2.1.Time,y.2.2.2.1.Id,y.2.2.2.1.Pending,y.2.2.2.1.Flags,y.2.2.2.1.Out.Got,y.2.2.2.1.Out.Closed,y.2.2.2.1.Seen,(d4 y).1,(d4 y).2,y.2.2.2.1.Set,y.2.2.2.1.Ripes,y.2.2.2.1.Out.Said,y.2.2.2.1.Out.Due)) (fun _=>rfl)) ⟨[1,2,3,19,20,21],[.nilcell 1 5 154 (.powers []),.nilcell 1 7 119 (.ripes []),.nilcell 1 14 9 (.strs []),.nilcell 1 15 3 (.ints []),.nilown 3 110 (.packets []),.pub 19,.nilsl 19 (.packets [])]⟩ [.cells 70 22,.cells 70 22,.rows 110,.rows 154,.rows 119,.rows 9,.rows 3]
def zavc:=EndD.mk (LQ.map (LQ.kp 0 0 (LQ.kp 1 0 (LQ.k (LQ.c (.own 2)) (LQ.v boolP (LQ.v boolP (LQ.v intP (LQ.v intP (LQ.v intP (LQ.k (LQ.c (.own 3)) (LQ.v zaz (LQ.k (LQ.c (.own 4)) (LQ.seq (LP.q (a6L (LP.one boolP))) (LQ.k (LQ.c (.own 5)) (LQ.k (LQ.c (.own 6)) (LQ.v intP (LQ.v boolP (LQ.seq (LP.q zzm) (LQ.seq (LP.q zn) (LQ.v zaz (LQ.v zg (LQ.v znw (LQ.v z6x (Par.q zbc))))))))))))))))))))))) (fun x=>((⟨x.1,x.2.1,x.2.2.1,x.2.2.2.1,(d4 x).1,(d12 x).1,(d4 x).2.1,(d12 x).2.1,(d4 x).2.2.1,(⟨(d12 x).2.2.1,(d12 x).2.2.2,(d4 x).2.2.2.1,(d8 x).1⟩:zcl),(d8 x).2.1⟩:zb),(d8 x).2.2.1,(d8 x).2.2.2.1)) (fun y=>(y.1.On,y.1.Gone,y.1.Height,y.1.Time,y.1.Id,y.1.Pending,y.1.Flags,y.1.Out.Got,y.1.Out.Closed,y.1.Seen,y.2.1,y.2.2,y.1.Set,y.1.Ripes,y.1.Out.Said,y.1.Out.Due)) (fun _=>rfl)) ⟨[1,2,3],[.nilcell 1 5 154 (.powers []),.nilcell 1 7 119 (.ripes []),.nilcell 1 14 9 (.strs []),.nilcell 1 15 3 (.ints []),.nilown 3 110 (.packets [])]⟩ [.cells 70 22,.cells 70 22,.rows 110,.rows 154,.rows 119,.rows 9,.rows 3]
def zazp:St→Option LR:=L1 34 12 0 za9j (.exit 0) zavc (u6 zdt)
def zs165a:=sub (fb Tryz.f67) [0,1,0,1,1,1]
theorem za9k:zk (za9g).env 0 zs165a zazp :=
 zb2 (A:=za9i) za9h fM trivial (k:=zab zs165a) (by kernel_rfl) rfl (by rintro ⟨x0,x1,x2,x3,x4,x5⟩;kernel_rfl)
def znh (a0:zb): Tr (zb) :=
 (.guard ((0+Sl.len (.powers a0.Set))*16≤140737488355328)
 (.guard ((zcn a0.Out).isSome=true)
 (.guard ((0+Sl.len (.ripes a0.Ripes))*16≤140737488355328)
 (.bind (zig a0.Pending ((a0.Pending.length:Nat):Int) 0 ({ a0 with Out:=((zcn a0.Out).getD default) }) (default:zb) []) fun v2 =>
 (.leaf ({ v2.1 with Pending:=v2.2.2 }))))))
def zhb (a0:zb):=(znh a0).run
def zni:SpecT:=zm 0 (Par.q (Par.ofLP zn)) 1 [] znh default (Par.q (Par.ofLP zn)) 1 []
theorem zti:ze Tryz.prog 67 (zni).spec :=
 sK (A:=⟨[([0,1,0,1,1,1],zazp)],[],[],za9f,[]⟩) za9h fM Tryz.func67 (c:=(fb Tryz.f67)) (by kernel_rfl) (Lc:=0) ⟨za9k,trivial⟩ _ _ 12 _ _ _ _ _ _ [.pubB 2] (by rintro a0;kernel_rfl)
def za9l:List (List Nat):=[[1,2],[1,2],[1,2,3],[1,2,3,19,20,21],[1,2,3,19,20,21,22],[1,2,3,5,19,20,21],[1,2,3,19,20,21],[1,2,3,19,20,21],[1,2],[2]]
noncomputable def za9m:EnvT:=⟨Tryz.prog,zw [(76,zh2),(101,zho)]⟩
theorem za9n:(za9m).Ok:=zd ⟨zi7,zj5,trivial⟩
def zcu (x0:(List Packet)) (x1 x2:Int) (x3 x4:zb) (x5:(List Packet)): Tr (((List Packet)×Int×Int×zb×zb×(List Packet))⊕(zb×zb×(List Packet))) :=
 (.ite (decide (x2 < x1))
  (.guard ((0:Int)≤x2∧x2 < ((Sl.len (.packets x0):Nat):Int))
  (.bind (za6 (x0.getD x2.toNat default)) fun v1 =>
  (.guard ((Sl.len (.packets x5)+Sl.len (.packets [v1]))*80≤140737488355328)
  (.leaf (.inl (x0,x1,IntKind.i64.wrap (x2+1),x3,x4,x5++[v1]))))))
  (.leaf (.inr (x3,x4,x5))))
def zgm (x0:(List Packet)) (x1 x2:Int) (x3 x4:zb) (x5:(List Packet)):=zbp (fun s:(List Packet)×Int×Int×zb×zb×(List Packet)=>(zcu s.1 s.2.1 s.2.2.1 s.2.2.2.1 s.2.2.2.2.1 s.2.2.2.2.2).run) (x0,x1,x2,x3,x4,x5)
def za9o:Ann:=⟨[],[],[],za9l,[]⟩
def za9p:=EndD.mk (LQ.map (LQ.kp 0 0 (LQ.kp 1 0 (LQ.k (LQ.c (.own 2)) (LQ.v zaz (LQ.v intP (LQ.v intP (LQ.v boolP (LQ.v boolP (LQ.v intP (LQ.v intP (LQ.v intP (LQ.k (LQ.c (.own 3)) (LQ.v zaz (LQ.k (LQ.c (.own 4)) (LQ.seq (LP.q (a6L (LP.one boolP))) (LQ.k (LQ.c (.own 5)) (LQ.k (LQ.c (.own 6)) (LQ.v intP (LQ.v boolP (LQ.seq (LP.q zzm) (LQ.seq (LP.q zn) (LQ.v zaz (LQ.v zg (LQ.v znw (LQ.v z6x (Par.q zbc)))))))))))))))))))))))))) (fun x=>(x.1,x.2.1,x.2.2.1,(⟨x.2.2.2.1,(d4 x).1,(d4 x).2.1,(d4 x).2.2.1,(d4 x).2.2.2.1,(d12 x).2.2.2.1,(d8 x).1,(d16 x).1,(d8 x).2.1,(⟨(d16 x).2.1,(d16 x).2.2,(d8 x).2.2.1,(d8 x).2.2.2.1⟩:zcl),(d12 x).1⟩:zb),(d12 x).2.1,(d12 x).2.2.1)) (fun y=>(y.1,y.2.1,y.2.2.1,y.2.2.2.1.On,y.2.2.2.1.Gone,y.2.2.2.1.Height,y.2.2.2.1.Time,y.2.2.2.1.Id,y.2.2.2.1.Pending,y.2.2.2.1.Flags,y.2.2.2.1.Out.Got,y.2.2.2.1.Out.Closed,y.2.2.2.1.Seen,(d4 y).1,(d4 y).2,y.2.2.2.1.Set,y.2.2.2.1.Ripes,y.2.2.2.1.Out.Said,y.2.2.2.1.Out.Due)) (fun _=>rfl)) ⟨[1,2,3,19,20,21],[.nilcell 1 5 154 (.powers []),.nilcell 1 7 119 (.ripes []),.nilcell 1 14 9 (.strs []),.nilcell 1 15 3 (.ints []),.nilown 3 110 (.packets []),.pub 19,.nilsl 19 (.packets [])]⟩ [.cells 70 22,.cells 70 22,.rows 110,.rows 154,.rows 119,.rows 9,.rows 3]
def zavd:=EndD.mk (LQ.map (LQ.kp 0 0 (LQ.kp 1 0 (LQ.k (LQ.c (.own 2)) (LQ.v boolP (LQ.v boolP (LQ.v intP (LQ.v intP (LQ.v intP (LQ.k (LQ.c (.own 3)) (LQ.v zaz (LQ.k (LQ.c (.own 4)) (LQ.seq (LP.q (a6L (LP.one boolP))) (LQ.k (LQ.c (.own 5)) (LQ.k (LQ.c (.own 6)) (LQ.v intP (LQ.v boolP (LQ.seq (LP.q zzm) (LQ.seq (LP.q zn) (LQ.v zaz (LQ.v zg (LQ.v znw (LQ.v z6x (Par.q zbc))))))))))))))))))))))) (fun x=>((⟨x.1,x.2.1,x.2.2.1,x.2.2.2.1,(d4 x).1,(d12 x).1,(d4 x).2.1,(d12 x).2.1,(d4 x).2.2.1,(⟨(d12 x).2.2.1,(d12 x).2.2.2,(d4 x).2.2.2.1,(d8 x).1⟩:zcl),(d8 x).2.1⟩:zb),(d8 x).2.2.1,(d8 x).2.2.2.1)) (fun y=>(y.1.On,y.1.Gone,y.1.Height,y.1.Time,y.1.Id,y.1.Pending,y.1.Flags,y.1.Out.Got,y.1.Out.Closed,y.1.Seen,y.2.1,y.2.2,y.1.Set,y.1.Ripes,y.1.Out.Said,y.1.Out.Due)) (fun _=>rfl)) ⟨[1,2,3],[.nilcell 1 5 154 (.powers []),.nilcell 1 7 119 (.ripes []),.nilcell 1 14 9 (.strs []),.nilcell 1 15 3 (.ints []),.nilown 3 110 (.packets [])]⟩ [.cells 70 22,.cells 70 22,.rows 110,.rows 154,.rows 119,.rows 9,.rows 3]
def zazq:St→Option LR:=L1 34 12 0 za9p (.exit 0) zavd (u6 zcu)
def zs166a:=sub (fb Tryz.f67) [0,1,0,1,1,1]
theorem za9q:zk (za9m).env 0 zs166a zazq :=
 zb2 (A:=za9o) za9n fM trivial (k:=zab zs166a) (by kernel_rfl) rfl (by rintro ⟨x0,x1,x2,x3,x4,x5⟩;kernel_rfl)
def zkk (a0:zb): Tr (zb) :=
 (.guard ((0+Sl.len (.powers a0.Set))*16≤140737488355328)
 (.guard ((zcn a0.Out).isSome=true)
 (.guard ((0+Sl.len (.ripes a0.Ripes))*16≤140737488355328)
 (.bind (zgm a0.Pending ((a0.Pending.length:Nat):Int) 0 ({ a0 with Out:=((zcn a0.Out).getD default) }) (default:zb) []) fun v2 =>
 (.leaf ({ v2.1 with Pending:=v2.2.2 }))))))
def zfi (a0:zb):=(zkk a0).run
def zkl:SpecT:=zm 0 (Par.q (Par.ofLP zn)) 1 [] zkk default (LQ.map (LQ.seq (LQ.agg (LQ.v boolP (LQ.v boolP (LQ.v intP (LQ.v intP (LQ.v intP (LQ.k (LQ.c (.own 0)) (LQ.k (LQ.c (.own 1)) (LQ.k (LQ.c (.own 2)) (LQ.seq (LP.q (a6L (LP.one boolP))) (LQ.k (LQ.c (.own 3)) (LQ.k (LQ.c (.own 4)) (LQ.v intP (LQ.v boolP (LP.q zzm))))))))))))))) (LQ.v zg (LQ.v zaz (LQ.v znw (LQ.v z6x (Par.q zbc)))))) (fun x=>(⟨x.1.1,x.1.2.1,x.1.2.2.1,x.1.2.2.2.1,x.1.2.2.2.2.1,x.2.1,x.2.2.1,x.2.2.2.1,x.1.2.2.2.2.2.1,(⟨(d4 x).1,(d4 x).2,x.1.2.2.2.2.2.2.1,x.1.2.2.2.2.2.2.2.1⟩:zcl),x.1.2.2.2.2.2.2.2.2⟩:zb)) (fun y=>((y.On,y.Gone,y.Height,y.Time,y.Id,y.Flags,y.Out.Got,y.Out.Closed,y.Seen),y.Set,y.Pending,y.Ripes,y.Out.Said,y.Out.Due)) (fun _=>rfl)) 1 [.rows 154,.rows 110,.rows 119,.rows 9,.rows 3]
theorem zpz:ze Tryz.prog 67 (zkl).spec :=
 sK (A:=⟨[([0,1,0,1,1,1],zazq)],[],[],za9l,[]⟩) za9n fM Tryz.func67 (c:=(fb Tryz.f67)) (by kernel_rfl) (Lc:=0) ⟨za9q,trivial⟩ _ _ 12 _ _ _ _ _ _ [] (by rintro a0;kernel_rfl)
def za3d:List (List Nat):=[[1],[1,8,9,10],[1,8,9,10,11],[1,4,8,9,10],[1,8,9,10,21],[2],[1,8,9,10],[1,24,25,26],[1,24,25,26,27],[1,6,24,25,26],[1,24,25,26,42],[2],[1,24,25,26],[2]]
noncomputable def za3e:EnvT:=⟨Tryz.prog,zw [(98,zhn),(75,zh7),(97,z32)]⟩
theorem za3f:(za3e).Ok:=zd ⟨zj3,zi8,z8f,trivial⟩
def zcb (x0:(List Packet)) (x1 x2:Int) (x3:zb): Tr (((List Packet)×Int×Int×zb)⊕((Bool)⊕(zb))) :=
 (.ite (decide (x2 < x1))
  (.guard ((0:Int)≤x2∧x2 < ((Sl.len (.packets x0):Nat):Int))
  (.guard (((((x0.getD x2.toNat default).Kind) != 1)=false→((zaw (x0.getD x2.toNat default)).isSome=true)∧True))
  (.ite ((((x0.getD x2.toNat default).Kind) != 1)||(((zaw (x0.getD x2.toNat default)).getD default) != 0))
   (.leaf (.inr (.inl false)))
   (.leaf (.inl (x0,x1,IntKind.i64.wrap (x2+1),x3))))))
  (.leaf (.inr (.inr x3))))
def zih (x0:(List Packet)) (x1 x2:Int) (x3:zb):=zbp (fun s:(List Packet)×Int×Int×zb=>(zcb s.1 s.2.1 s.2.2.1 s.2.2.2).run) (x0,x1,x2,x3)
def za9r:Ann:=⟨[],[],[],za3d,[]⟩
def za9s:=EndD.mk (LQ.kp 0 0 (LQ.v zaz (LQ.v intP (LQ.v intP (LP.q zn))))) ⟨[1,8,9,10],[.pub 8,.nilsl 8 (.packets [])]⟩ [.cells 70 22]
def zave:=EndD.mk (Par.q boolP) ⟨[2],[]⟩ []
def zavf:=EndD.mk (LQ.kp 0 0 (LP.q zn)) ⟨[1],[]⟩ [.cells 70 22]
def zazr:St→Option LR:=L2 91 4 0 za9s .ret zave (.exit 0) zavf (u4 zcb)
def zs168a:=sub (fb Tryz.f66) [0,1,0,1]
theorem za9t:zk (za3e).env 0 zs168a zazr :=
 zkf (A:=za9r) za3f fM trivial (k:=zab zs168a) (by kernel_rfl) rfl rfl (by rintro ⟨x0,x1,x2,x3⟩;kernel_rfl)
def zcc (x0:(List Ripe)) (x1 x2:Int) (x3:zb): Tr (((List Ripe)×Int×Int×zb)⊕((Bool)⊕(zb))) :=
 (.ite (decide (x2 < x1))
  (.guard ((0:Int)≤x2∧x2 < ((Sl.len (.ripes x0):Nat):Int))
  (.ite (((decide (((x0.getD x2.toNat default).Id) < 1))||(decide (((x0.getD x2.toNat default).Id) > 1099511627776)))||(decide (((x0.getD x2.toNat default).Due) < 0)))
   (.leaf (.inr (.inl false)))
   (.leaf (.inl (x0,x1,IntKind.i64.wrap (x2+1),x3)))))
  (.leaf (.inr (.inr x3))))
def zii (x0:(List Ripe)) (x1 x2:Int) (x3:zb):=zbp (fun s:(List Ripe)×Int×Int×zb=>(zcc s.1 s.2.1 s.2.2.1 s.2.2.2).run) (x0,x1,x2,x3)
def za9u:Ann:=⟨[],[],[],za3d,[]⟩
def za9v:=EndD.mk (LQ.kp 0 0 (LQ.v znw (LQ.v intP (LQ.v intP (LP.q zn))))) ⟨[1,24,25,26],[.pub 24,.nilsl 24 (.ripes [])]⟩ [.cells 70 22]
def zavg:=EndD.mk (Par.q boolP) ⟨[2],[]⟩ []
def zavh:=EndD.mk (LQ.kp 0 0 (LP.q zn)) ⟨[1],[]⟩ [.cells 70 22]
def zazs:St→Option LR:=L2 91 4 0 za9v .ret zavg (.exit 2) zavh (u4 zcc)
def zs168b:=sub (fb Tryz.f66) [0,1,0,1,1]
theorem za9w:zk (za3e).env 0 zs168b zazs :=
 zkf (A:=za9u) za3f fM trivial (k:=zab zs168b) (by kernel_rfl) rfl rfl (by rintro ⟨x0,x1,x2,x3⟩;kernel_rfl)
def znj (a0:zb): Tr (Bool) :=
 (.two (zih a0.Pending ((a0.Pending.length:Nat):Int) 0 a0) (fun v1 =>
  (.leaf v1)) (fun v2 =>
  (.two (zii v2.Ripes ((v2.Ripes.length:Nat):Int) 0 v2) (fun v3 =>
   (.leaf v3)) (fun v4 =>
   (.guard (((((((((!(v4.On&&v4.Gone))&&(decide (v4.Height≥0)))&&(decide (v4.Height < 1099511627776)))&&(decide (v4.Time≥0)))&&(decide (v4.Time≤1099511627776)))&&(decide (v4.Id≥0)))&&(decide (v4.Id≤1099511627776)))=true→((zby v4.Out).isSome=true)∧True))
   (.guard ((((((((((!(v4.On&&v4.Gone))&&(decide (v4.Height≥0)))&&(decide (v4.Height < 1099511627776)))&&(decide (v4.Time≥0)))&&(decide (v4.Time≤1099511627776)))&&(decide (v4.Id≥0)))&&(decide (v4.Id≤1099511627776)))&&((zby v4.Out).getD default))=true→((zds v4.Set).isSome=true)∧True))
   (.leaf (((((((((!(v4.On&&v4.Gone))&&(decide (v4.Height≥0)))&&(decide (v4.Height < 1099511627776)))&&(decide (v4.Time≥0)))&&(decide (v4.Time≤1099511627776)))&&(decide (v4.Id≥0)))&&(decide (v4.Id≤1099511627776)))&&((zby v4.Out).getD default))&&((zds v4.Set).getD default)))))))))
def zdf (a0:zb):=(znj a0).run
def zfj:SpecT:=zm 0 (Par.q (Par.ofLP zn)) 1 [] znj default (Par.q boolP) 1 []
theorem zhc:ze Tryz.prog 66 (zfj).spec :=
 sK (A:=⟨[([0,1,0,1],zazr),([0,1,0,1,1],zazs)],[],[],za3d,[]⟩) za3f fM Tryz.func66 (c:=(fb Tryz.f66)) (by kernel_rfl) (Lc:=0) ⟨za9t,za9w,trivial⟩ _ _ 4 _ _ _ _ _ _ [] (by rintro a0;kernel_rfl)
def zl2 (a0:(List Power)) (a1 a2:Int): Tr (zb) :=
 (.guard ((0+Sl.len (.powers a0))*16≤140737488355328)
 (.leaf (⟨true,false,0,a2,a1,a0,[],[],(⟨false,false,false,false,false,false⟩:(A6 Bool)),(⟨[],[],0,false⟩:zcl),(⟨0,0,0,0⟩:Head)⟩:zb)))
def zf3 (a0:(List Power)) (a1 a2:Int):=(zl2 a0 a1 a2).run
def ztj:SpecT:=zm 0 (LQ.v zg (LQ.v intP (Par.q intP))) 3 [] (u3 zl2) default (Par.q (Par.ofLP zn)) 1 []
theorem z1y:ze Tryz.prog 25 (ztj).spec :=
 sK (A:=⟨[],[],[],[[0,1,2,6],[6]],[]⟩) zhN fM Tryz.func25 (c:=(fb Tryz.f25)) (by kernel_rfl) (Lc:=0) trivial _ _ 4 _ _ _ _ _ _ [.pubB 6] (by rintro ⟨a0,a1,a2⟩;kernel_rfl)
noncomputable def zbi9:EnvT:=⟨Tryz.prog,zw [(66,zfj),(108,zm2),(67,zkl)]⟩
theorem zbja:(zbi9).Ok:=zd ⟨zhc,zsn,zpz,trivial⟩
def znk (a0:zb) (a1:ByteArray): Tr (zb×Int) :=
 (.bind (zdf a0) fun v1 =>
 (.ite (!v1)
  (.leaf (a0,2))
  (.ite (!a0.On)
   (.leaf (a0,4))
   (.bind (zdc a1) fun v2 =>
   (.ite (v2.2 != 0)
    (.leaf (a0,v2.2))
    (.ite (v2.1.Kind != 1)
     (.leaf (a0,3))
     (.bind (zfi a0) fun v3 =>
     (.guard ((Sl.len (.packets v3.Pending)+Sl.len (.packets [v2.1]))*80≤140737488355328)
     (.leaf ({ v3 with Pending:=v3.Pending++[v2.1] },0))))))))))
def zhd (a0:zb) (a1:ByteArray):=(znk a0 a1).run
def zul:SpecT:=zm 0 (LQ.v (Par.ofLP zn) (Par.q z43)) 2 [] (u2 znk) default (LQ.v (Par.ofLP zn) (Par.q intP)) 2 []
theorem z33:ze Tryz.prog 74 (zul).spec :=
 sK (A:=⟨[],[],[],[[1,2,4],[1,2,4,10],[4,5],[1,2,4,14],[4,5],[2,4,6,7],[2,4,6,7,22],[4,5],[2,4,6,27],[4,5],[2,4,6],[2,4],[4,5]],[]⟩) zbja fM Tryz.func74 (c:=(fb Tryz.f74)) (by kernel_rfl) (Lc:=0) trivial _ _ 12 _ _ _ _ _ _ [.pubB 4] (by rintro ⟨a0,a1⟩;kernel_rfl)
noncomputable def zbjb:EnvT:=⟨Tryz.prog,zw [(64,ziw),(65,zaau),(67,zni)]⟩
theorem zbjc:(zbjb).Ok:=zd ⟨zlr,zaec,zti,trivial⟩
def z0q (a0:zb) (a1:Packet) (a2:Int): Tr (zb×Int) :=
 (.bind (za3 a1) fun v1 =>
 (.ite (v1.2 != 0)
  (.leaf (a0,v1.2))
  (.bind (z1i a0.Out v1.1 (IntKind.i64.wrap (a2+40))) fun v2 =>
  (.ite (v2.2 != 0)
   (.leaf (a0,v2.2))
   (.bind (zhb a0) fun v3 =>
   (.leaf ({ v3 with Out:=v2.1 },0)))))))
def zaa (a0:zb) (a1:Packet) (a2:Int):=(z0q a0 a1 a2).run
def zum:SpecT:=zm 0 (LQ.v (Par.ofLP zn) (LQ.v (Par.ofLP zes) (Par.q intP))) 3 [] (u3 z0q) default (LQ.v (Par.ofLP zn) (Par.q intP)) 2 []
theorem zx9:ze Tryz.prog 69 (zum).spec :=
 sK (A:=⟨[],[],[],[[2,3,4,6],[2,3,6,8,9],[2,3,6,8,9,17],[6,7],[3,6,9,10],[3,6,9,10,30],[6,7],[3,6,10],[3,6],[6,7]],[]⟩) zbjc fM Tryz.func69 (c:=(fb Tryz.f69)) (by kernel_rfl) (Lc:=0) trivial _ _ 6 _ _ _ _ _ _ [.pubB 6] (by rintro ⟨a0,a1,a2⟩;kernel_rfl)
def zavi:List (List Nat):=[[1,2,4],[1,2,4,15],[4,5],[1,2,4,19],[4,5],[1,2,4,28],[4,5],[1,2,4,6],[1,2,4,6],[1,2,4,6],[1,4,6,39,40,41],[1,4,6,39,40,41,42],[1,4,6,8,39,40,41],[1,4,6,8,39,40,41],[1,4,6,8,39,40,41,55,56,57],[1,4,6,8,39,40,41,55,56,57,58],[1,4,6,8,10,39,40,41,55,56,57],[1,4,6,8,39,40,41,55,56,57],[1,4,6,8,39,40,41,55,56,57],[1,4,6,39,40,41],[1,4,6,39,40,41],[1,4,6],[1,4,6,89],[1,4,6,11,12],[1,4,6,11,103],[4,5],[1,4,6,11],[1,4,6],[4,5]]
noncomputable def zavj:EnvT:=⟨Tryz.prog,zw [(66,zfj),(67,zkl),(68,zabd),(69,zum)]⟩
theorem zavk:(zavj).Ok:=zd ⟨zhc,zpz,zaik,zx9,trivial⟩
def zea (x0:Int) (x1:(List Packet)) (x2 x3:Int) (x4:(List Int)) (x5 x6:Int) (x7 x8:zb) (x9:Packet): Tr ((Int×(List Packet)×Int×Int×(List Int)×Int×Int×zb×zb×Packet)⊕(Int×(List Packet)×Int×Int×zb×zb×Packet)) :=
 (.ite (decide (x6 < x5))
  (.guard ((0:Int)≤x6∧x6 < ((Sl.len (.ints x4):Nat):Int))
  (.guard ((0:Int)≤(x4.getD x6.toNat 0)∧((x4.getD x6.toNat 0):Int) < 6)
  (.leaf (.inl (x0,x1,x2,x3,x4,x5,IntKind.i64.wrap (x6+1),x7,{ x8 with Flags:=(x8.Flags.set (x4.getD x6.toNat 0) false) },x9)))))
  (.leaf (.inr (x0,x1,x2,x3,x7,x8,x9))))
def zjg (x0:Int) (x1:(List Packet)) (x2 x3:Int) (x4:(List Int)) (x5 x6:Int) (x7 x8:zb) (x9:Packet):=zbp (fun s:Int×(List Packet)×Int×Int×(List Int)×Int×Int×zb×zb×Packet=>(zea s.1 s.2.1 s.2.2.1 s.2.2.2.1 s.2.2.2.2.1 s.2.2.2.2.2.1 s.2.2.2.2.2.2.1 s.2.2.2.2.2.2.2.1 s.2.2.2.2.2.2.2.2.1 s.2.2.2.2.2.2.2.2.2).run) (x0,x1,x2,x3,x4,x5,x6,x7,x8,x9)
def za9x:Ann:=⟨[],[],[],zavi,[(13,[600006]),(23,[1600006])]⟩
def za9y:=EndD.mk (LQ.map (LQ.v intP (LQ.kp 0 0 (LQ.kp 1 0 (LQ.kp 2 0 (LQ.v zaz (LQ.v intP (LQ.v intP (LQ.v zbc (LQ.v intP (LQ.v intP (LQ.seq (LP.q zn) (LQ.v boolP (LQ.v boolP (LQ.v intP (LQ.v intP (LQ.v intP (LQ.v zg (LQ.k (LQ.c (.own 3)) (LQ.k (LQ.c (.own 4)) (LQ.seq (LP.q (a6L (LP.one boolP))) (LQ.k (LQ.c (.own 5)) (LQ.k (LQ.c (.own 6)) (LQ.v intP (LQ.v boolP (LQ.seq (LP.q zzm) (LQ.seq (LP.q zes) (LQ.v zaz (LQ.v znw (LQ.v z6x (Par.q zbc)))))))))))))))))))))))))))))) (fun x=>(x.1,x.2.1,x.2.2.1,x.2.2.2.1,(d4 x).1,(d4 x).2.1,(d4 x).2.2.1,(d4 x).2.2.2.1,(⟨(d8 x).1,(d8 x).2.1,(d8 x).2.2.1,(d8 x).2.2.2.1,(d12 x).1,(d12 x).2.1,(d16 x).2.2.2.1,(d20 x).1,(d12 x).2.2.1,(⟨(d20 x).2.1,(d20 x).2.2,(d12 x).2.2.2.1,(d16 x).1⟩:zcl),(d16 x).2.1⟩:zb),(d16 x).2.2.1)) (fun y=>(y.1,y.2.1,y.2.2.1,y.2.2.2.1,(d4 y).1,(d4 y).2.1,(d4 y).2.2.1,(d4 y).2.2.2.1,(d8 y).1.On,(d8 y).1.Gone,(d8 y).1.Height,(d8 y).1.Time,(d8 y).1.Id,(d8 y).1.Set,(d8 y).1.Flags,(d8 y).1.Out.Got,(d8 y).1.Out.Closed,(d8 y).1.Seen,(d8 y).2,(d8 y).1.Pending,(d8 y).1.Ripes,(d8 y).1.Out.Said,(d8 y).1.Out.Due)) (fun _=>rfl)) ⟨[1,4,6,8,39,40,41,55,56,57],[.nilcell 6 6 110 (.packets []),.nilcell 6 7 119 (.ripes []),.nilcell 6 14 9 (.strs []),.nilcell 6 15 3 (.ints []),.pub 39,.nilsl 39 (.packets []),.pub 55,.nilsl 55 (.ints [])]⟩ [.cells 70 22,.cells 70 22,.cells 110 6,.rows 110,.rows 119,.rows 9,.rows 3]
def zavl:=EndD.mk (LQ.map (LQ.v intP (LQ.kp 0 0 (LQ.kp 1 0 (LQ.kp 2 0 (LQ.v zaz (LQ.v intP (LQ.v intP (LQ.seq (LP.q zn) (LQ.v boolP (LQ.v boolP (LQ.v intP (LQ.v intP (LQ.v intP (LQ.v zg (LQ.k (LQ.c (.own 3)) (LQ.k (LQ.c (.own 4)) (LQ.seq (LP.q (a6L (LP.one boolP))) (LQ.k (LQ.c (.own 5)) (LQ.k (LQ.c (.own 6)) (LQ.v intP (LQ.v boolP (LQ.seq (LP.q zzm) (LQ.seq (LP.q zes) (LQ.v zaz (LQ.v znw (LQ.v z6x (Par.q zbc))))))))))))))))))))))))))) (fun x=>(x.1,x.2.1,x.2.2.1,x.2.2.2.1,(d4 x).1,(⟨(d4 x).2.1,(d4 x).2.2.1,(d4 x).2.2.2.1,(d8 x).1,(d8 x).2.1,(d8 x).2.2.1,(d16 x).1,(d16 x).2.1,(d8 x).2.2.2.1,(⟨(d16 x).2.2.1,(d16 x).2.2.2,(d12 x).1,(d12 x).2.1⟩:zcl),(d12 x).2.2.1⟩:zb),(d12 x).2.2.2.1)) (fun y=>(y.1,y.2.1,y.2.2.1,y.2.2.2.1,(d4 y).1,(d4 y).2.1.On,(d4 y).2.1.Gone,(d4 y).2.1.Height,(d4 y).2.1.Time,(d4 y).2.1.Id,(d4 y).2.1.Set,(d4 y).2.1.Flags,(d4 y).2.1.Out.Got,(d4 y).2.1.Out.Closed,(d4 y).2.1.Seen,(d4 y).2.2,(d4 y).2.1.Pending,(d4 y).2.1.Ripes,(d4 y).2.1.Out.Said,(d4 y).2.1.Out.Due)) (fun _=>rfl)) ⟨[1,4,6,8,39,40,41],[.nilcell 6 6 110 (.packets []),.nilcell 6 7 119 (.ripes []),.nilcell 6 14 9 (.strs []),.nilcell 6 15 3 (.ints []),.pub 39,.nilsl 39 (.packets [])]⟩ [.cells 70 22,.cells 70 22,.cells 110 6,.rows 110,.rows 119,.rows 9,.rows 3]
def zazt:St→Option LR:=L1 111 11 0 za9y (.exit 2) zavl (u10 zea)
def zs172a:=sub (fb Tryz.f26) [0,1,0,1,1,0,0,1,1,0,0,1,0,1,1,1,1,1,1,1]
theorem za9z:zk (zavj).env 0 zs172a zazt :=
 zb2 (A:=za9x) zavk fM trivial (k:=zab zs172a) (by kernel_rfl) rfl (by rintro ⟨x0,x1,x2,x3,x4,x5,x6,x7,x8,x9⟩;kernel_rfl)
def zeb (x0:Int) (x1:(List Packet)) (x2 x3:Int) (x4 x5:zb): Tr ((Int×(List Packet)×Int×Int×zb×zb)⊕(Int×zb×zb)) :=
 (.ite (decide (x3 < x2))
  (.guard ((0:Int)≤x3∧x3 < ((Sl.len (.packets x1):Nat):Int))
  (.guard ((zuk x5.Set ((x1.getD x3.toNat default).Set)).isSome=true)
  (.bind (zjg x0 x1 x2 x3 ((x1.getD x3.toNat default).Done) ((((x1.getD x3.toNat default).Done).length:Nat):Int) 0 x4 ({ x5 with Id:=(x1.getD x3.toNat default).Id,Set:=((zuk x5.Set ((x1.getD x3.toNat default).Set)).getD default) }) (x1.getD x3.toNat default)) fun v3 =>
  (.guard ((Sl.len (.ripes v3.2.2.2.2.2.1.Ripes)+Sl.len (.ripes [(⟨v3.2.2.2.2.2.2.Id,IntKind.i64.wrap (v3.1+15)⟩:Ripe)]))*16≤140737488355328)
  (.leaf (.inl (v3.1,v3.2.1,v3.2.2.1,IntKind.i64.wrap (v3.2.2.2.1+1),v3.2.2.2.2.1,{ v3.2.2.2.2.2.1 with Ripes:=v3.2.2.2.2.2.1.Ripes++[(⟨v3.2.2.2.2.2.2.Id,IntKind.i64.wrap (v3.1+15)⟩:Ripe)] })))))))
  (.leaf (.inr (x0,x4,x5))))
def zjh (x0:Int) (x1:(List Packet)) (x2 x3:Int) (x4 x5:zb):=zbp (fun s:Int×(List Packet)×Int×Int×zb×zb=>(zeb s.1 s.2.1 s.2.2.1 s.2.2.2.1 s.2.2.2.2.1 s.2.2.2.2.2).run) (x0,x1,x2,x3,x4,x5)
def za90:Ann:=⟨[([0,1,0,1,1,0,0,1,1,0,0,1,0,1,1,1,1,1,1,1],zazt)],[],[],zavi,[(13,[600006]),(23,[1600006])]⟩
def za91:=EndD.mk (LQ.map (LQ.v intP (LQ.kp 0 0 (LQ.kp 1 0 (LQ.v zaz (LQ.v intP (LQ.v intP (LQ.seq (LP.q zn) (LQ.v boolP (LQ.v boolP (LQ.v intP (LQ.v intP (LQ.v intP (LQ.v zg (LQ.k (LQ.c (.own 2)) (LQ.k (LQ.c (.own 3)) (LQ.seq (LP.q (a6L (LP.one boolP))) (LQ.k (LQ.c (.own 4)) (LQ.k (LQ.c (.own 5)) (LQ.v intP (LQ.v boolP (LQ.seq (LP.q zzm) (LQ.v zaz (LQ.v znw (LQ.v z6x (Par.q zbc))))))))))))))))))))))))) (fun x=>(x.1,x.2.1,x.2.2.1,x.2.2.2.1,(d4 x).1,(⟨(d4 x).2.1,(d4 x).2.2.1,(d4 x).2.2.2.1,(d8 x).1,(d8 x).2.1,(d8 x).2.2.1,(d12 x).2.2.2.1,(d16 x).1,(d8 x).2.2.2.1,(⟨(d16 x).2.1,(d16 x).2.2,(d12 x).1,(d12 x).2.1⟩:zcl),(d12 x).2.2.1⟩:zb))) (fun y=>(y.1,y.2.1,y.2.2.1,y.2.2.2.1,(d4 y).1,(d4 y).2.On,(d4 y).2.Gone,(d4 y).2.Height,(d4 y).2.Time,(d4 y).2.Id,(d4 y).2.Set,(d4 y).2.Flags,(d4 y).2.Out.Got,(d4 y).2.Out.Closed,(d4 y).2.Seen,(d4 y).2.Pending,(d4 y).2.Ripes,(d4 y).2.Out.Said,(d4 y).2.Out.Due)) (fun _=>rfl)) ⟨[1,4,6,39,40,41],[.pubC 6 5,.nilcell 6 6 110 (.packets []),.nilcell 6 7 119 (.ripes []),.nilcell 6 14 9 (.strs []),.nilcell 6 15 3 (.ints []),.pub 39,.nilsl 39 (.packets [])]⟩ [.cells 70 22,.cells 70 22,.rows 110,.rows 119,.rows 9,.rows 3]
def zavm:=EndD.mk (LQ.map (LQ.v intP (LQ.kp 0 0 (LQ.kp 1 0 (LQ.seq (LP.q zn) (LQ.v boolP (LQ.v boolP (LQ.v intP (LQ.v intP (LQ.v intP (LQ.v zg (LQ.k (LQ.c (.own 2)) (LQ.k (LQ.c (.own 3)) (LQ.seq (LP.q (a6L (LP.one boolP))) (LQ.k (LQ.c (.own 4)) (LQ.k (LQ.c (.own 5)) (LQ.v intP (LQ.v boolP (LQ.seq (LP.q zzm) (LQ.v zaz (LQ.v znw (LQ.v z6x (Par.q zbc)))))))))))))))))))))) (fun x=>(x.1,x.2.1,(⟨x.2.2.1,x.2.2.2.1,(d4 x).1,(d4 x).2.1,(d4 x).2.2.1,(d4 x).2.2.2.1,(d12 x).1,(d12 x).2.1,(d8 x).1,(⟨(d12 x).2.2.1,(d12 x).2.2.2,(d8 x).2.1,(d8 x).2.2.1⟩:zcl),(d8 x).2.2.2.1⟩:zb))) (fun y=>(y.1,y.2.1,y.2.2.On,y.2.2.Gone,y.2.2.Height,y.2.2.Time,y.2.2.Id,y.2.2.Set,y.2.2.Flags,y.2.2.Out.Got,y.2.2.Out.Closed,y.2.2.Seen,y.2.2.Pending,y.2.2.Ripes,y.2.2.Out.Said,y.2.2.Out.Due)) (fun _=>rfl)) ⟨[1,4,6],[.pubC 6 5,.nilcell 6 6 110 (.packets []),.nilcell 6 7 119 (.ripes []),.nilcell 6 14 9 (.strs []),.nilcell 6 15 3 (.ints [])]⟩ [.cells 70 22,.cells 70 22,.rows 110,.rows 119,.rows 9,.rows 3]
def zazu:St→Option LR:=L1 111 11 0 za91 (.exit 0) zavm (u6 zeb)
def zs172b:=sub (fb Tryz.f26) [0,1,0,1,1,1,1,1,1,1]
theorem za92:zk (zavj).env 0 zs172b zazu :=
 zb2 (A:=za90) zavk fM ⟨za9z,trivial⟩ (k:=zab zs172b) (by kernel_rfl) rfl (by rintro ⟨x0,x1,x2,x3,x4,x5⟩;kernel_rfl)
def zc3 (x0:Int) (x1 x2:zb): Tr ((Int×zb×zb)⊕((Int×zb)⊕(zb×zb))) :=
 (.guard (((decide (((x2.Ripes.length:Nat):Int) > 0))=true→((0:Int)≤0∧0 < ((Sl.len (.ripes x2.Ripes):Nat):Int))∧True))
 (.ite ((decide (((x2.Ripes.length:Nat):Int) > 0))&&(decide (((x2.Ripes.getD 0 default).Due)≤x0)))
  (.guard ((0:Int)≤0∧0 < ((Sl.len (.ripes x2.Ripes):Nat):Int))
  (.guard ((zaa x2 (⟨2,(x2.Ripes.getD 0 default).Id,0,0,[],[]⟩:Packet) x0).isSome=true)
  (.ite ((((zaa x2 (⟨2,(x2.Ripes.getD 0 default).Id,0,0,[],[]⟩:Packet) x0).getD default).2) != 0)
   (.leaf (.inr (.inl (0,x2))))
   (.guard ((0:Int)≤1∧1≤(((Sl.len (.ripes ((((zaa x2 (⟨2,(x2.Ripes.getD 0 default).Id,0,0,[],[]⟩:Packet) x0).getD default).1).Ripes)):Nat):Int):Int)∧((Sl.len (.ripes ((((zaa x2 (⟨2,(x2.Ripes.getD 0 default).Id,0,0,[],[]⟩:Packet) x0).getD default).1).Ripes)):Nat):Int)≤((Sl.len (.ripes ((((zaa x2 (⟨2,(x2.Ripes.getD 0 default).Id,0,0,[],[]⟩:Packet) x0).getD default).1).Ripes)):Nat):Int))
   (.leaf (.inl (x0,x1,{ ((((zaa x2 (⟨2,(x2.Ripes.getD 0 default).Id,0,0,[],[]⟩:Packet) x0).getD default).1):zb) with Ripes:=((((((zaa x2 (⟨2,(x2.Ripes.getD 0 default).Id,0,0,[],[]⟩:Packet) x0).getD default).1).Ripes).drop 1).take ((((Sl.len (.ripes ((((zaa x2 (⟨2,(x2.Ripes.getD 0 default).Id,0,0,[],[]⟩:Packet) x0).getD default).1).Ripes)):Nat):Int)).toNat - 1)) })))))))
  (.leaf (.inr (.inr (x1,x2))))))
def zbg (x0:Int) (x1 x2:zb):=zbp (fun s:Int×zb×zb=>(zc3 s.1 s.2.1 s.2.2).run) (x0,x1,x2)
def za93:Ann:=⟨[],[],[],zavi,[(13,[600006]),(23,[1600006])]⟩
def za94:=EndD.mk (LQ.v intP (LQ.kp 0 0 (LQ.kp 1 0 (LQ.seq (LP.q zn) (LP.q zn))))) ⟨[1,4,6],[.pubC 6 6,.pubC 6 7,.pubC 6 14,.pubC 6 15]⟩ [.cells 70 22,.cells 70 22]
def zavn:=EndD.mk (LQ.kp 0 0 (LQ.v intP (LP.q zn))) ⟨[4,5],[.pubB 4]⟩ [.cells 70 22]
def zavo:=EndD.mk (LQ.kp 0 0 (LQ.kp 1 0 (LQ.seq (LP.q zn) (LP.q zn)))) ⟨[4,6],[.pubC 6 6,.pubC 6 7,.pubC 6 14,.pubC 6 15]⟩ [.cells 70 22,.cells 70 22]
def zazv:St→Option LR:=L2 111 11 0 za94 .ret zavn (.exit 4) zavo (u3 zc3)
def zs172c:=sub (fb Tryz.f26) [0,0,1,1,1,1,1,1,1,1,1]
theorem za95:zk (zavj).env 0 zs172c zazv :=
 zkf (A:=za93) zavk fM trivial (k:=zab zs172c) (by kernel_rfl) rfl rfl (by rintro ⟨x0,x1,x2⟩;kernel_rfl)
def zor (a0:zb) (a1:Int): Tr (zb×Int) :=
 (.bind (zdf a0) fun v1 =>
 (.ite (!v1)
  (.leaf (a0,2))
  (.ite (!a0.On)
   (.leaf (a0,4))
   (.ite ((decide (a1 < a0.Time))||(decide (a1 > 1099511627776)))
    (.leaf (a0,2))
    (.bind (zfi a0) fun v2 =>
    (.bind (zjh a1 a0.Pending ((a0.Pending.length:Nat):Int) 0 (default:zb) ({ v2 with Height:=IntKind.i64.wrap (v2.Height+1),Time:=a1 })) fun v4 =>
    (.two (zbg v4.1 v4.2.1 ({ v4.2.2 with Pending:=[] })) (fun v5 =>
     (.leaf (v5.2,v5.1))) (fun v6 =>
     (.leaf (v6.2,0))))))))))
def zac (a0:zb) (a1:Int):=(zor a0 a1).run
def zwn:SpecT:=zm 0 (LQ.v (Par.ofLP zn) (Par.q intP)) 2 [] (u2 zor) default (LQ.v (Par.ofLP zn) (Par.q intP)) 2 []
theorem z5z:ze Tryz.prog 26 (zwn).spec :=
 sK (A:=⟨[([0,1,0,1,1,1,1,1,1,1],zazu),([0,0,1,1,1,1,1,1,1,1,1],zazv)],[],[],zavi,[(13,[600006]),(23,[1600006])]⟩) zavk fM Tryz.func26 (c:=(fb Tryz.f26)) (by kernel_rfl) (Lc:=0) ⟨za92,za95,trivial⟩ _ _ 11 _ _ _ _ _ _ [.pubB 4] (by rintro ⟨a0,a1⟩;kernel_rfl)
noncomputable def zbjd:EnvT:=⟨Tryz.prog,zw [(66,zfj),(70,z0n),(69,zum)]⟩
theorem zbje:(zbjd).Ok:=zd ⟨zhc,z1j,zx9,trivial⟩
def z0r (a0:zb) (a1 a2:Int): Tr (zb×Int) :=
 (.bind (zdf a0) fun v1 =>
 (.ite (((!v1)||(decide (a2 < 0)))||(decide (a2 > 1099511627776)))
  (.leaf (a0,2))
  (.guard (((((!a0.On)||(decide (a1 < 0)))||(decide (a1 > 5)))=false→((zc2 a0.Set).isSome=true)∧True))
  (.guard (((((!a0.On)||(decide (a1 < 0)))||(decide (a1 > 5)))=false→((0:Int)≤a1∧(a1:Int) < 6)∧True))
  (.ite ((((!a0.On)||(decide (a1 < 0)))||(decide (a1 > 5)))||((((zc2 a0.Set).getD default).get a1)==0))
   (.leaf (a0,4))
   (.guard ((0:Int)≤a1∧(a1:Int) < 6)
   (.ite (a0.Flags.get a1)
    (.leaf (a0,5))
    (.guard ((zc2 a0.Set).isSome=true)
    (.guard ((0:Int)≤a1∧(a1:Int) < 6)
    (.guard ((zaa a0 (⟨3,a0.Id,a1,((zc2 a0.Set).getD default).get a1,[],[]⟩:Packet) a2).isSome=true)
    (.ite ((((zaa a0 (⟨3,a0.Id,a1,((zc2 a0.Set).getD default).get a1,[],[]⟩:Packet) a2).getD default).2)==0)
     (.guard ((0:Int)≤a1∧(a1:Int) < 6)
     (.leaf ({ ((((zaa a0 (⟨3,a0.Id,a1,((zc2 a0.Set).getD default).get a1,[],[]⟩:Packet) a2).getD default).1):zb) with Flags:=(((((zaa a0 (⟨3,a0.Id,a1,((zc2 a0.Set).getD default).get a1,[],[]⟩:Packet) a2).getD default).1).Flags).set a1 true) },((zaa a0 (⟨3,a0.Id,a1,((zc2 a0.Set).getD default).get a1,[],[]⟩:Packet) a2).getD default).2)))
     (.leaf ((((zaa a0 (⟨3,a0.Id,a1,((zc2 a0.Set).getD default).get a1,[],[]⟩:Packet) a2).getD default).1),((zaa a0 (⟨3,a0.Id,a1,((zc2 a0.Set).getD default).get a1,[],[]⟩:Packet) a2).getD default).2)))))))))))))
def zj8 (a0:zb) (a1 a2:Int):=(z0r a0 a1 a2).run
def z8g:SpecT:=zm 0 (LQ.v (Par.ofLP zn) (LQ.v intP (Par.q intP))) 3 [] (u3 z0r) default (LQ.v (Par.ofLP zn) (Par.q intP)) 2 []
theorem zagh:ze Tryz.prog 27 (z8g).spec :=
 sK (A:=⟨[],[],[],[[1,2,3,6],[1,2,3,6,20],[6,7],[1,2,3,6,40],[6,7],[1,2,3,6,45],[6,7],[1,6,8,9],[1,6,8,9,63],[6,8,9],[6,7]],[]⟩) zbje fM Tryz.func27 (c:=(fb Tryz.f27)) (by kernel_rfl) (Lc:=0) trivial _ _ 5 _ _ _ _ _ _ [.pubB 6] (by rintro ⟨a0,a1,a2⟩;kernel_rfl)
noncomputable def zbjf:EnvT:=⟨Tryz.prog,zw [(66,zfj),(70,z0n),(69,zum)]⟩
theorem zbjg:(zbjf).Ok:=zd ⟨zhc,z1j,zx9,trivial⟩
def zvq (a0:zb) (a1 a2 a3:Int): Tr (zb×Int) :=
 (.bind (zdf a0) fun v1 =>
 (.ite (((!v1)||(decide (a3 < 0)))||(decide (a3 > 1099511627776)))
  (.leaf (a0,2))
  (.ite (((!a0.On)||(decide (a1 < 0)))||(decide (a1 > 5)))
   (.leaf (a0,4))
   (.ite ((decide (a2 < 1))||(decide (a2 > a0.Id)))
    (.leaf (a0,2))
    (.bind (zc2 a0.Set) fun v2 =>
    (.guard ((0:Int)≤a1∧(a1:Int) < 6)
    (.ite ((v2.get a1)==0)
     (.bind (zaa a0 (⟨4,a2,a1,1,[],[]⟩:Packet) a3) fun v3 =>
     (.leaf (v3.1,v3.2)))
     (.bind (zaa a0 (⟨4,a2,a1,v2.get a1,[],[]⟩:Packet) a3) fun v4 =>
     (.leaf (v4.1,v4.2))))))))))
def zgn (a0:zb) (a1 a2 a3:Int):=(zvq a0 a1 a2 a3).run
def z2p:SpecT:=zm 0 (LQ.v (Par.ofLP zn) (LQ.v intP (LQ.v intP (Par.q intP)))) 4 [] (u4 zvq) default (LQ.v (Par.ofLP zn) (Par.q intP)) 2 []
theorem zabe:ze Tryz.prog 28 (z2p).spec :=
 sK (A:=⟨[],[],[],[[1,2,3,4,8],[1,2,3,4,8,21],[8,9],[1,2,3,4,8,33],[8,9],[1,2,3,4,8,42],[8,9],[1,2,3,4,8,10],[1,2,3,4,8,10,50],[1,2,3,4,8,10],[8,9]],[]⟩) zbjg fM Tryz.func28 (c:=(fb Tryz.f28)) (by kernel_rfl) (Lc:=0) trivial _ _ 4 _ _ _ _ _ _ [.pubB 8] (by rintro ⟨a0,a1,a2,a3⟩;kernel_rfl)
noncomputable def zbjh:EnvT:=⟨Tryz.prog,zw [(67,zni)]⟩
theorem zbji:(zbjh).Ok:=zd ⟨zti,trivial⟩
def zkm (a0:zb): Tr (zb) :=
 (.ite (a0.On)
  (.bind (zhb a0) fun v1 =>
  (.leaf ({ v1 with On:=false,Gone:=true,Out:={ v1.Out with Closed:=true } })))
  (.leaf a0))
def zbh (a0:zb):=(zkm a0).run
def zq9:SpecT:=zm 0 (Par.q (Par.ofLP zn)) 1 [] zkm default (Par.q (Par.ofLP zn)) 1 []
theorem z0s:ze Tryz.prog 32 (zq9).spec :=
 sK (A:=⟨[],[],[],[[1,2],[1,2,4],[1,2],[1,2],[2]],[]⟩) zbji fM Tryz.func32 (c:=(fb Tryz.f32)) (by kernel_rfl) (Lc:=0) trivial _ _ 4 _ _ _ _ _ _ [.pubB 2] (by rintro a0;kernel_rfl)
end
