/-
  The functions, each by its tree.
-/
import Derived.Test.YtiacgjebngnddaaGreatXAbBorrow
import Derived.Test.YtiacgjebngnddaaGreatXAbC
import Derived.Test.YtiacgjebngnddaaGreatXAbRo
import Derived.Test.YtiacgjebngnddaaGreatXFBank
import Derived.Test.YtiacgjebngnddaaGreatXFCodec
import Derived.Test.YtiacgjebngnddaaGreatXFCons
import Derived.Test.YtiacgjebngnddaaGreatXFLine
import Derived.Test.YtiacgjebngnddaaGreatXFProv
import Derived.Test.YtiacgjebngnddaaGreatXFRatio
import Derived.Test.YtiacgjebngnddaaGreatXFStakeA
import Derived.Test.YtiacgjebngnddaaGreatXFStakeB
import Derived.Test.YtiacgjebngnddaaGreatXFacts
namespace Go.Proofs.YtiacgjebngnddaaGreat.Ab
open Go Go.RowKit
open Go.IntKind (i64 u64)
set_option maxRecDepth 100000
set_option linter.unusedVariables false
set_option linter.unusedSimpArgs false
noncomputable section
noncomputable def za2y:EnvT:=⟨Tryz.prog,zad [(36,zvz)],false⟩
theorem za2z:(za2y).Ok:=zf ⟨z2p,trivial⟩
def zxb  : Tr (Wld) :=
 (.bind (zou) fun v1 =>
 (.leaf (⟨0,v1,(default:zc5),(default:zvc),0⟩:Wld)))
def zmi  := (zxb ).run
def zsr:SpecT:=zu 0 LQ.nil 0 [] (fun s=>zxb ) default (LQ.kp 0 0 (LP.q zc4)) 1 [.cells 99 159]
theorem zuf:zg Tryz.prog 19 (zsr).spec :=
 sK (A:=⟨[],[],[],[[],[0]],[]⟩) za2z fM Tryz.func19 (c:=(fb Tryz.f19)) (by kernel_rfl) (Lc:=0) trivial _ _ 3 _ _ _ _ _ _ [.pubB 0] (by rintro _;kernel_rfl)
def zjg (a0:Wld): Tr (Int×Wld) :=
 (.leaf (a0.clock,a0))
def zh8 (a0:Wld):=(zjg a0).run
def zo4:SpecT:=zu 1 (LQ.kp 0 0 (LP.q zc4)) 1 [.cells 99 159] zjg default (LQ.v intP (LP.q zc4)) 1 [.cells 99 159]
theorem zvh:zg Tryz.prog 38 (zo4).spec :=
 sK (A:=⟨[],[],[[1,0,1]],[[0],[0,4],[2],[2]],[]⟩) zhN fM Tryz.func38 (c:=(fb Tryz.f38)) (by kernel_rfl) (Lc:=1) trivial _ _ 3 _ _ _ _ _ _ [.pubN 0] (by rintro a0;kernel_rfl)
def zqw (a0:(List Power)): Tr ((List Power)) :=
 (.guard ((0+Sl.len (.powers a0))*16≤140737488355328)
 (.leaf a0))
def ze8 (a0:(List Power)):=(zqw a0).run
def zqx:SpecT:=zu 0 (Par.q zd) 1 [] zqw default (Par.q zd) 1 []
theorem zug:zg Tryz.prog 24 (zqx).spec :=
 sK (A:=⟨[],[],[],[[0],[2]],[]⟩) zhN fM Tryz.func24 (c:=(fb Tryz.f24)) (by kernel_rfl) (Lc:=0) trivial _ _ 3 _ _ _ _ _ _ [.pub 2] (by rintro a0;kernel_rfl)
def zo5 (a0:(List Int)): Tr ((List Int)) :=
 (.guard ((0+Sl.len (.ints a0))*8≤140737488355328)
 (.leaf a0))
def zb3 (a0:(List Int)):=(zo5 a0).run
def zkj:SpecT:=zu 0 (Par.q zt) 1 [] zo5 default (Par.q zt) 1 []
theorem zm2:zg Tryz.prog 25 (zkj).spec :=
 sK (A:=⟨[],[],[],[[0],[2]],[]⟩) zhN fM Tryz.func25 (c:=(fb Tryz.f25)) (by kernel_rfl) (Lc:=0) trivial _ _ 3 _ _ _ _ _ _ [.pub 2] (by rintro a0;kernel_rfl)
noncomputable def za20:EnvT:=⟨Tryz.prog,zad [(24,zqx),(25,zkj)],false⟩
theorem za21:(za20).Ok:=zf ⟨zug,zm2,trivial⟩
def zqy (a0:Packet): Tr (Packet) :=
 (.guard ((ze8 a0.Set).isSome=true)
 (.guard ((zb3 a0.Done).isSome=true)
 (.leaf ({ a0 with Set:=((ze8 a0.Set).getD default),Done:=((zb3 a0.Done).getD default) }))))
def ze9 (a0:Packet):=(zqy a0).run
def zqz:SpecT:=zu 0 (Par.q (Par.ofLP zjw)) 1 [] zqy default (Par.q (Par.ofLP zjw)) 1 []
theorem zuh:zg Tryz.prog 27 (zqz).spec :=
 sK (A:=⟨[],[],[],[[1,2],[1,2],[2]],[]⟩) za21 fM Tryz.func27 (c:=(fb Tryz.f27)) (by kernel_rfl) (Lc:=0) trivial _ _ 4 _ _ _ _ _ _ [.pubB 2] (by rintro a0;kernel_rfl)
noncomputable def za22:EnvT:=⟨Tryz.prog,zad [(25,zkj)],false⟩
theorem za23:(za22).Ok:=zf ⟨zm2,trivial⟩
def zo6 (a0:zcd): Tr (zcd) :=
 (.guard ((0+Sl.len (.strs a0.Said))*16≤140737488355328)
 (.guard ((zb3 a0.Due).isSome=true)
 (.leaf ({ a0 with Due:=((zb3 a0.Due).getD default) }))))
def zi1 (a0:zcd):=(zo6 a0).run
def zui:SpecT:=zu 0 (Par.q (Par.ofLP lineL)) 1 [] zo6 default (Par.q (Par.ofLP lineL)) 1 []
theorem z02:zg Tryz.prog 26 (zui).spec :=
 sK (A:=⟨[],[],[],[[1,2],[1,2],[2]],[]⟩) za23 fM Tryz.func26 (c:=(fb Tryz.f26)) (by kernel_rfl) (Lc:=0) trivial _ _ 5 _ _ _ _ _ _ [.pubB 2] (by rintro a0;kernel_rfl)
def zm3 (a0:(List Power)): Tr ((List Power)) :=
 (.guard ((0+Sl.len (.powers a0))*16≤140737488355328)
 (.leaf a0))
def zaq (a0:(List Power)):=(zm3 a0).run
def zi2:SpecT:=zu 0 (Par.q zd) 1 [] zm3 default (LQ.k (LQ.c (.own 0)) (Par.q zd)) 1 [.rows 83]
theorem zli:zg Tryz.prog 24 (zi2).spec :=
 sK (A:=⟨[],[],[],[[0],[2]],[]⟩) zhN fM Tryz.func24 (c:=(fb Tryz.f24)) (by kernel_rfl) (Lc:=0) trivial _ _ 3 _ _ _ _ _ _ [.nilown 2 83 (.powers [])] (by rintro a0;kernel_rfl)
def zlj (a0:(List Int)): Tr ((List Int)) :=
 (.guard ((0+Sl.len (.ints a0))*8≤140737488355328)
 (.leaf a0))
def zba (a0:(List Int)):=(zlj a0).run
def zlk:SpecT:=zu 0 (Par.q zt) 1 [] zlj default (LQ.k (LQ.c (.own 0)) (Par.q zt)) 1 [.rows 3]
theorem zpy:zg Tryz.prog 25 (zlk).spec :=
 sK (A:=⟨[],[],[],[[0],[2]],[]⟩) zhN fM Tryz.func25 (c:=(fb Tryz.f25)) (by kernel_rfl) (Lc:=0) trivial _ _ 3 _ _ _ _ _ _ [.nilown 2 3 (.ints [])] (by rintro a0;kernel_rfl)
noncomputable def za24:EnvT:=⟨Tryz.prog,zad [(25,zlk)],false⟩
theorem za25:(za24).Ok:=zf ⟨zpy,trivial⟩
def zll (a0:zcd): Tr (zcd) :=
 (.guard ((0+Sl.len (.strs a0.Said))*16≤140737488355328)
 (.guard ((zba a0.Due).isSome=true)
 (.leaf ({ a0 with Due:=((zba a0.Due).getD default) }))))
def zy (a0:zcd):=(zll a0).run
def zlm:SpecT:=zu 0 (Par.q (Par.ofLP lineL)) 1 [] zll default (LQ.map (LQ.seq (LQ.agg (LQ.k (LQ.c (.own 0)) (LQ.k (LQ.c (.own 1)) (LQ.v intP (Par.q boolP))))) (LQ.v zb6 (Par.q zt))) (fun x=>(⟨x.2.1,x.2.2,x.1.1,x.1.2⟩:zcd)) (fun y=>((y.Got,y.Closed),y.Said,y.Due)) (fun _=>rfl)) 1 [.rows 9,.rows 3]
theorem zpz:zg Tryz.prog 26 (zlm).spec :=
 sK (A:=⟨[],[],[],[[1,2],[1,2],[2]],[]⟩) za25 fM Tryz.func26 (c:=(fb Tryz.f26)) (by kernel_rfl) (Lc:=0) trivial _ _ 6 _ _ _ _ _ _ [] (by rintro a0;kernel_rfl)
noncomputable def za26:EnvT:=⟨Tryz.prog,zad [(24,zi2),(25,zkj)],false⟩
theorem za27:(za26).Ok:=zf ⟨zli,zm2,trivial⟩
def zm4 (a0:Packet): Tr (Packet) :=
 (.guard ((zaq a0.Set).isSome=true)
 (.guard ((zb3 a0.Done).isSome=true)
 (.leaf ({ a0 with Set:=((zaq a0.Set).getD default),Done:=((zb3 a0.Done).getD default) }))))
def zln (a0:Packet):=(zm4 a0).run
def zs8:SpecT:=zu 0 (Par.q (Par.ofLP zjw)) 1 [] zm4 default (LQ.map (LQ.seq (LQ.agg (LQ.v intP (LQ.v intP (LQ.v intP (LQ.v intP (LQ.k (LQ.c (.own 0)) (Par.q zt))))))) (Par.q zd)) (fun x=>(⟨x.1.1,x.1.2.1,x.1.2.2.1,x.1.2.2.2.1,x.2,x.1.2.2.2.2⟩:Packet)) (fun y=>((y.Kind,y.Id,y.V,y.N,y.Done),y.Set)) (fun _=>rfl)) 1 [.rows 83]
theorem zzu:zg Tryz.prog 27 (zs8).spec :=
 sK (A:=⟨[],[],[],[[1,2],[1,2],[2]],[]⟩) za27 fM Tryz.func27 (c:=(fb Tryz.f27)) (by kernel_rfl) (Lc:=0) trivial _ _ 5 _ _ _ _ _ _ [] (by rintro a0;kernel_rfl)
def zauh:List (List Nat):=[[0,1,4],[0,1,4,18],[4],[4,5],[4,5],[4,5,6],[4,5,6,39,40,41],[4,5,6,39,40,41,42],[4,5,6,8,39,40,41],[4,5,6,39,40,41],[4,5,6,39,40,41],[4,5],[4]]
noncomputable def zaui:EnvT:=⟨Tryz.prog,zad [(24,zqx),(26,zui),(27,zqz)],false⟩
theorem zauj:(zaui).Ok:=zf ⟨zug,z02,zuh,trivial⟩
def zbi (x0:(List Packet)) (x1 x2:Int) (x3:Wld) (x4 x5:zb) (x6:(List Packet)): Tr (((List Packet)×Int×Int×Wld×zb×zb×(List Packet))⊕(Wld×zb×zb×(List Packet))) :=
 (.ite (decide (x2 < x1))
  (.guard ((0:Int)≤x2∧x2 < ((Sl.len (.packets x0):Nat):Int))
  (.bind (ze9 (x0.getD x2.toNat default)) fun v1 =>
  (.guard ((Sl.len (.packets x6)+Sl.len (.packets [v1]))*80≤140737488355328)
  (.leaf (.inl (x0,x1,i64.wrap (x2+1),x3,x4,x5,x6++[v1]))))))
  (.leaf (.inr (x3,x4,x5,x6))))
def zd6 (x0:(List Packet)) (x1 x2:Int) (x3:Wld) (x4 x5:zb) (x6:(List Packet)):=zcv (fun s:(List Packet)×Int×Int×Wld×zb×zb×(List Packet)=>(zbi s.1 s.2.1 s.2.2.1 s.2.2.2.1 s.2.2.2.2.1 s.2.2.2.2.2.1 s.2.2.2.2.2.2).run) (x0,x1,x2,x3,x4,x5,x6)
def zauk:Ann:=⟨[],[],[],zauh,[]⟩
def zaul:=EndD.mk (LQ.map (LQ.kp 1 0 (LQ.kp 2 0 (LQ.k (LQ.c (.own 3)) (LQ.v zal (LQ.v intP (LQ.v intP (LQ.seq (LP.q zc4) (LQ.seq (LP.q z5) (LQ.v boolP (LQ.v boolP (LQ.v intP (LQ.v intP (LQ.v intP (LQ.v zd (LQ.v zal (LQ.k (LQ.c (.own 4)) (LQ.seq (LP.q (a6L (LP.one boolP))) (LQ.seq (LP.q lineL) (LQ.seq (LP.q zp6) (LQ.v zal (Par.q zhw))))))))))))))))))))) (fun x=>(x.1,x.2.1,x.2.2.1,x.2.2.2.1,(d4 x).1,(⟨(d4 x).2.1,(d4 x).2.2.1,(d4 x).2.2.2.1,(d8 x).1,(d8 x).2.1,(d8 x).2.2.1,(d8 x).2.2.2.1,(d16 x),(d12 x).1,(d12 x).2.1,(d12 x).2.2.1⟩:zb),(d12 x).2.2.2.1)) (fun y=>(y.1,y.2.1,y.2.2.1,y.2.2.2.1,(d4 y).1,(d4 y).2.1.On,(d4 y).2.1.Gone,(d4 y).2.1.Height,(d4 y).2.1.Time,(d4 y).2.1.Id,(d4 y).2.1.Set,(d4 y).2.1.Pending,(d4 y).2.1.Flags,(d4 y).2.1.Out,(d4 y).2.1.Seen,(d4 y).2.2,(d4 y).2.1.Ripes)) (fun _=>rfl)) ⟨[4,5,6,39,40,41],[.nilcell 5 7 93 (.ripes []),.nilown 6 73 (.packets []),.pub 39,.nilsl 39 (.packets [])]⟩ [.cells 99 159,.cells 64 22,.cells 64 22,.rows 73,.rows 93]
def zaky:=EndD.mk (LQ.map (LQ.kp 1 0 (LQ.kp 2 0 (LQ.k (LQ.c (.own 3)) (LQ.seq (LP.q zc4) (LQ.seq (LP.q z5) (LQ.v boolP (LQ.v boolP (LQ.v intP (LQ.v intP (LQ.v intP (LQ.v zd (LQ.v zal (LQ.k (LQ.c (.own 4)) (LQ.seq (LP.q (a6L (LP.one boolP))) (LQ.seq (LP.q lineL) (LQ.seq (LP.q zp6) (LQ.v zal (Par.q zhw)))))))))))))))))) (fun x=>(x.1,x.2.1,(⟨x.2.2.1,x.2.2.2.1,(d4 x).1,(d4 x).2.1,(d4 x).2.2.1,(d4 x).2.2.2.1,(d8 x).1,(d12 x).2,(d8 x).2.1,(d8 x).2.2.1,(d8 x).2.2.2.1⟩:zb),(d12 x).1)) (fun y=>(y.1,y.2.1,y.2.2.1.On,y.2.2.1.Gone,y.2.2.1.Height,y.2.2.1.Time,y.2.2.1.Id,y.2.2.1.Set,y.2.2.1.Pending,y.2.2.1.Flags,y.2.2.1.Out,y.2.2.1.Seen,y.2.2.2,y.2.2.1.Ripes)) (fun _=>rfl)) ⟨[4,5,6],[.nilcell 5 7 93 (.ripes []),.nilown 6 73 (.packets [])]⟩ [.cells 99 159,.cells 64 22,.cells 64 22,.rows 73,.rows 93]
def zanu:St→Option LR:=L1 54 10 1 zaul (.exit 0) zaky (u7 zbi)
def zs112a:=sub (fb Tryz.f11) [0,1,0,1,1,1,1,1]
theorem zaum:zl (zaui).env 1 zs112a zanu :=
 zd1 (A:=zauk) zauj fM trivial (k:=za5 zs112a) (by kernel_rfl) rfl (by rintro ⟨x0,x1,x2,x3,x4,x5,x6⟩;kernel_rfl)
def zge (a0:Int) (a1:Wld): Tr (zb×Wld) :=
 (.ite ((false||(decide (a0 < 0)))||(decide (a0≥2)))
  (.leaf ((default:zb),a1))
  (.guard ((0:Int)≤a0∧(a0:Int) < 2)
  (.guard ((ze8 (a1.consumers.Set.get a0)).isSome=true)
  (.guard ((zi1 (zc a1.consumers a0).Out).isSome=true)
  (.guard ((0+Sl.len (.ripes (a1.consumers.Ripes.get a0)))*16≤140737488355328)
  (.bind (zd6 (a1.consumers.Pending.get a0) (((a1.consumers.Pending.get a0).length:Nat):Int) 0 a1 (default:zb) ({ ((zc a1.consumers a0):zb) with Set:=((ze8 (a1.consumers.Set.get a0)).getD default),Out:=((zi1 (zc a1.consumers a0).Out).getD default) }) []) fun v2 =>
  (.leaf ({ v2.2.2.1 with Pending:=v2.2.2.2 },v2.1))))))))
def zbx (a0:Int) (a1:Wld):=(zge a0 a1).run
def zkw:SpecT:=zu 1 (LQ.kp 0 0 (LQ.v intP (LP.q zc4))) 2 [.cells 99 159] (u2 zge) default (LQ.v (Par.ofLP z5) (LP.q zc4)) 1 [.cells 99 159]
theorem zss:zg Tryz.prog 11 (zkw).spec :=
 sK (A:=⟨[([0,1,0,1,1,1,1,1],zanu)],[],[],zauh,[]⟩) zauj fM Tryz.func11 (c:=(fb Tryz.f11)) (by kernel_rfl) (Lc:=1) ⟨zaum,trivial⟩ _ _ 10 _ _ _ _ _ _ [.pubN 0,.pubB 4] (by rintro ⟨a0,a1⟩;kernel_rfl)
def zaun:List (List Nat):=[[0,2],[0,2,10],[2],[2,3],[2,3],[2,3],[2,3,26],[2,3,26,27],[2,3,4,26],[2,3,5,26],[2,3,26],[2,3,26],[2,3,6],[2,3,6,58,59,60],[2,3,6,58,59,60,61],[2,3,6,8,58,59,60],[2,3,6,58,59,60],[2,3,6,58,59,60],[2,3],[2]]
noncomputable def zauo:EnvT:=⟨Tryz.prog,zad [(24,zi2),(25,zlk),(26,zlm),(27,zqz)],true⟩
theorem zaup:(zauo).Ok:=zf ⟨zli,zpy,zpz,zuh,trivial⟩
def za2 (x0:(List Asked)) (x1 x2:Int) (x3:Wld) (x4 x5:za) (x6:(List Asked)): Tr (((List Asked)×Int×Int×Wld×za×za×(List Asked))⊕(Wld×za×za×(List Asked))) :=
 (.ite (decide (x2 < x1))
  (.guard ((0:Int)≤x2∧x2 < ((Sl.len (.asked x0):Nat):Int))
  (.guard ((ze9 (x0.getD x2.toNat default).P).isSome=true)
  (.guard ((Sl.len (.asked x6)+Sl.len (.asked [(⟨(x0.getD x2.toNat default).C,((ze9 (x0.getD x2.toNat default).P).getD default)⟩:Asked)]))*88≤140737488355328)
  (.leaf (.inl (x0,x1,i64.wrap (x2+1),x3,x4,x5,x6++[(⟨(x0.getD x2.toNat default).C,((ze9 (x0.getD x2.toNat default).P).getD default)⟩:Asked)]))))))
  (.leaf (.inr (x3,x4,x5,x6))))
def zdi (x0:(List Asked)) (x1 x2:Int) (x3:Wld) (x4 x5:za) (x6:(List Asked)):=zcv (fun s:(List Asked)×Int×Int×Wld×za×za×(List Asked)=>(za2 s.1 s.2.1 s.2.2.1 s.2.2.2.1 s.2.2.2.2.1 s.2.2.2.2.2.1 s.2.2.2.2.2.2).run) (x0,x1,x2,x3,x4,x5,x6)
def zauq:Ann:=⟨[],[],[],zaun,[]⟩
def zaur:=EndD.mk (LQ.map (LQ.kp 1 0 (LQ.kp 2 0 (LQ.k (LQ.c (.own 3)) (LQ.v zbe (LQ.v intP (LQ.v intP (LQ.seq (LP.q zc4) (LQ.seq (LP.q providerL) (LQ.v intP (LQ.v intP (LQ.seq (LP.q bankL) (LQ.seq (LP.q validatorsL) (LQ.seq (LP.q (a4L (a6L (LP.one intP)))) (LQ.k (LQ.c (.own 4)) (LQ.v intP (LQ.k (LQ.c (.own 5)) (LQ.v boolP (LQ.v boolP (LQ.v intP (LQ.k (LQ.c (.own 6)) (LQ.v boolP (LQ.k (LQ.c (.own 7)) (LQ.k (LQ.c (.own 8)) (LQ.k (LQ.c (.own 9)) (LQ.v intP (LQ.v boolP (LQ.v intP (LQ.v intP (LQ.v intP (LQ.v intP (LQ.v boolP (LQ.v boolP (LQ.v intP (LQ.k (LQ.c (.own 10)) (LQ.v boolP (LQ.k (LQ.c (.own 11)) (LQ.k (LQ.c (.own 12)) (LQ.k (LQ.c (.own 13)) (LQ.v intP (LQ.v boolP (LQ.v intP (LQ.v intP (LQ.v intP (LQ.v intP (LQ.seq (LP.q meterL) (LQ.v zbe (LQ.v zbe (LQ.v zc6 (LQ.v zd (LQ.v zd (LQ.v zt (LQ.v zb6 (LQ.v zt (LQ.v zd (LQ.v zt (LQ.v zb6 (Par.q zt))))))))))))))))))))))))))))))))))))))))))))))))))))))))) (fun x=>(x.1,x.2.1,x.2.2.1,x.2.2.2.1,(d4 x).1,(⟨(d4 x).2.1,(d4 x).2.2.1,(⟨(d4 x).2.2.2.1,(d8 x).1,(d8 x).2.1,(d32 x).2.2.1,(d8 x).2.2.1⟩:Stake),(d32 x).2.2.2.1,(⟨(⟨(d8 x).2.2.2.1,(d20 x).2.1⟩:(A2 Bool)),(⟨(d12 x).1,(d20 x).2.2.1⟩:(A2 Bool)),(⟨(d12 x).2.1,(d20 x).2.2.2.1⟩:(A2 Int)),(⟨(d36 x).1,(d40 x).1⟩:(A2 (List Power))),(⟨(d12 x).2.2.1,(d24 x).1⟩:(A2 Bool)),(⟨(d36 x).2.1,(d40 x).2.1⟩:(A2 (List Int))),(⟨(d36 x).2.2.1,(d40 x).2.2.1⟩:(A2 (List ByteArray))),(⟨(d36 x).2.2.2.1,(d40 x).2.2.2⟩:(A2 (List Int))),(⟨(d12 x).2.2.2.1,(d24 x).2.1⟩:(A2 Int)),(⟨(d16 x).1,(d24 x).2.2.1⟩:(A2 Bool)),(⟨(d16 x).2.1,(d24 x).2.2.2.1⟩:(A2 Int)),(⟨(d16 x).2.2.1,(d28 x).1⟩:(A2 Int)),(⟨(d16 x).2.2.2.1,(d28 x).2.1⟩:(A2 Int)),(⟨(d20 x).1,(d28 x).2.2.1⟩:(A2 Int))⟩:Links),(d28 x).2.2.2.1,(d32 x).1⟩:za),(d32 x).2.1)) (fun y=>(y.1,y.2.1,y.2.2.1,y.2.2.2.1,(d4 y).1,(d4 y).2.1.Height,(d4 y).2.1.Time,(d4 y).2.1.Stake.Bank,(d4 y).2.1.Stake.Validators,(d4 y).2.1.Stake.Shares,(d4 y).2.1.Stake.Next,(d4 y).2.1.Links.On.x0,(d4 y).2.1.Links.Gone.x0,(d4 y).2.1.Links.Base.x0,(d4 y).2.1.Links.Fresh.x0,(d4 y).2.1.Links.Got.x0,(d4 y).2.1.Links.Closed.x0,(d4 y).2.1.Links.SHeight.x0,(d4 y).2.1.Links.STime.x0,(d4 y).2.1.Links.SSaid.x0,(d4 y).2.1.Links.SGot.x0,(d4 y).2.1.Links.On.x1,(d4 y).2.1.Links.Gone.x1,(d4 y).2.1.Links.Base.x1,(d4 y).2.1.Links.Fresh.x1,(d4 y).2.1.Links.Got.x1,(d4 y).2.1.Links.Closed.x1,(d4 y).2.1.Links.SHeight.x1,(d4 y).2.1.Links.STime.x1,(d4 y).2.1.Links.SSaid.x1,(d4 y).2.1.Links.SGot.x1,(d4 y).2.1.Meter,(d4 y).2.1.Queue,(d4 y).2.2,(d4 y).2.1.Stake.Waits,(d4 y).2.1.Set,(d4 y).2.1.Links.Told.x0,(d4 y).2.1.Links.Done.x0,(d4 y).2.1.Links.Said.x0,(d4 y).2.1.Links.Due.x0,(d4 y).2.1.Links.Told.x1,(d4 y).2.1.Links.Done.x1,(d4 y).2.1.Links.Said.x1,(d4 y).2.1.Links.Due.x1)) (fun _=>rfl)) ⟨[2,3,6,58,59,60],[.nilcell 3 63 78 (.waits []),.nilcell 3 65 83 (.powers []),.nilcell 3 69 83 (.powers []),.nilcell 3 71 3 (.ints []),.nilcell 3 72 9 (.strs []),.nilcell 3 73 3 (.ints []),.nilcell 3 83 83 (.powers []),.nilcell 3 85 3 (.ints []),.nilcell 3 86 9 (.strs []),.nilcell 3 87 3 (.ints []),.nilown 6 90 (.asked []),.pub 58,.nilsl 58 (.asked [])]⟩ [.cells 99 159,.cells 58 97,.cells 58 97,.rows 90,.rows 78,.rows 83,.rows 83,.rows 3,.rows 9,.rows 3,.rows 83,.rows 3,.rows 9,.rows 3]
def zakz:=EndD.mk (LQ.map (LQ.kp 1 0 (LQ.kp 2 0 (LQ.k (LQ.c (.own 3)) (LQ.seq (LP.q zc4) (LQ.seq (LP.q providerL) (LQ.v intP (LQ.v intP (LQ.seq (LP.q bankL) (LQ.seq (LP.q validatorsL) (LQ.seq (LP.q (a4L (a6L (LP.one intP)))) (LQ.k (LQ.c (.own 4)) (LQ.v intP (LQ.k (LQ.c (.own 5)) (LQ.v boolP (LQ.v boolP (LQ.v intP (LQ.k (LQ.c (.own 6)) (LQ.v boolP (LQ.k (LQ.c (.own 7)) (LQ.k (LQ.c (.own 8)) (LQ.k (LQ.c (.own 9)) (LQ.v intP (LQ.v boolP (LQ.v intP (LQ.v intP (LQ.v intP (LQ.v intP (LQ.v boolP (LQ.v boolP (LQ.v intP (LQ.k (LQ.c (.own 10)) (LQ.v boolP (LQ.k (LQ.c (.own 11)) (LQ.k (LQ.c (.own 12)) (LQ.k (LQ.c (.own 13)) (LQ.v intP (LQ.v boolP (LQ.v intP (LQ.v intP (LQ.v intP (LQ.v intP (LQ.seq (LP.q meterL) (LQ.v zbe (LQ.v zbe (LQ.v zc6 (LQ.v zd (LQ.v zd (LQ.v zt (LQ.v zb6 (LQ.v zt (LQ.v zd (LQ.v zt (LQ.v zb6 (Par.q zt)))))))))))))))))))))))))))))))))))))))))))))))))))))) (fun x=>(x.1,x.2.1,(⟨x.2.2.1,x.2.2.2.1,(⟨(d4 x).1,(d4 x).2.1,(d4 x).2.2.1,(d28 x).2.2.2.1,(d4 x).2.2.2.1⟩:Stake),(d32 x).1,(⟨(⟨(d8 x).1,(d16 x).2.2.1⟩:(A2 Bool)),(⟨(d8 x).2.1,(d16 x).2.2.2.1⟩:(A2 Bool)),(⟨(d8 x).2.2.1,(d20 x).1⟩:(A2 Int)),(⟨(d32 x).2.1,(d36 x).2.1⟩:(A2 (List Power))),(⟨(d8 x).2.2.2.1,(d20 x).2.1⟩:(A2 Bool)),(⟨(d32 x).2.2.1,(d36 x).2.2.1⟩:(A2 (List Int))),(⟨(d32 x).2.2.2.1,(d36 x).2.2.2.1⟩:(A2 (List ByteArray))),(⟨(d36 x).1,(d40 x)⟩:(A2 (List Int))),(⟨(d12 x).1,(d20 x).2.2.1⟩:(A2 Int)),(⟨(d12 x).2.1,(d20 x).2.2.2.1⟩:(A2 Bool)),(⟨(d12 x).2.2.1,(d24 x).1⟩:(A2 Int)),(⟨(d12 x).2.2.2.1,(d24 x).2.1⟩:(A2 Int)),(⟨(d16 x).1,(d24 x).2.2.1⟩:(A2 Int)),(⟨(d16 x).2.1,(d24 x).2.2.2.1⟩:(A2 Int))⟩:Links),(d28 x).1,(d28 x).2.1⟩:za),(d28 x).2.2.1)) (fun y=>(y.1,y.2.1,y.2.2.1.Height,y.2.2.1.Time,y.2.2.1.Stake.Bank,y.2.2.1.Stake.Validators,y.2.2.1.Stake.Shares,y.2.2.1.Stake.Next,y.2.2.1.Links.On.x0,y.2.2.1.Links.Gone.x0,y.2.2.1.Links.Base.x0,y.2.2.1.Links.Fresh.x0,y.2.2.1.Links.Got.x0,y.2.2.1.Links.Closed.x0,y.2.2.1.Links.SHeight.x0,y.2.2.1.Links.STime.x0,y.2.2.1.Links.SSaid.x0,y.2.2.1.Links.SGot.x0,y.2.2.1.Links.On.x1,y.2.2.1.Links.Gone.x1,y.2.2.1.Links.Base.x1,y.2.2.1.Links.Fresh.x1,y.2.2.1.Links.Got.x1,y.2.2.1.Links.Closed.x1,y.2.2.1.Links.SHeight.x1,y.2.2.1.Links.STime.x1,y.2.2.1.Links.SSaid.x1,y.2.2.1.Links.SGot.x1,y.2.2.1.Meter,y.2.2.1.Queue,y.2.2.2,y.2.2.1.Stake.Waits,y.2.2.1.Set,y.2.2.1.Links.Told.x0,y.2.2.1.Links.Done.x0,y.2.2.1.Links.Said.x0,y.2.2.1.Links.Due.x0,y.2.2.1.Links.Told.x1,y.2.2.1.Links.Done.x1,y.2.2.1.Links.Said.x1,y.2.2.1.Links.Due.x1)) (fun _=>rfl)) ⟨[2,3,6],[.nilcell 3 63 78 (.waits []),.nilcell 3 65 83 (.powers []),.nilcell 3 69 83 (.powers []),.nilcell 3 71 3 (.ints []),.nilcell 3 72 9 (.strs []),.nilcell 3 73 3 (.ints []),.nilcell 3 83 83 (.powers []),.nilcell 3 85 3 (.ints []),.nilcell 3 86 9 (.strs []),.nilcell 3 87 3 (.ints []),.nilown 6 90 (.asked [])]⟩ [.cells 99 159,.cells 58 97,.cells 58 97,.rows 90,.rows 78,.rows 83,.rows 83,.rows 3,.rows 9,.rows 3,.rows 83,.rows 3,.rows 9,.rows 3]
def zanv:St→Option LR:=L1 77 19 1 zaur (.exit 2) zakz (u7 za2)
def zs113a:=sub (fb Tryz.f10) [0,1,0,1,1,1,1,1,1,1]
theorem zaus:zl (zauo).env 1 zs113a zanv :=
 zd1 (A:=zauq) zaup fM trivial (k:=za5 zs113a) (by kernel_rfl) rfl (by rintro ⟨x0,x1,x2,x3,x4,x5,x6⟩;kernel_rfl)
def zfa (a0:Wld): Tr (za×Wld) :=
 (.guard ((0+Sl.len (.waits a0.p.Stake.Waits))*64≤140737488355328)
 (.bind (zaq a0.p.Set) fun v1 =>
 (.guard ((zaq a0.p.Links.Told.x0).isSome=true)
 (.guard ((zba a0.p.Links.Done.x0).isSome=true)
 (.guard ((zy (⟨a0.p.Links.Said.x0,a0.p.Links.Due.x0,a0.p.Links.Got.x0,a0.p.Links.Closed.x0⟩:zcd)).isSome=true)
 (.guard ((zaq a0.p.Links.Told.x1).isSome=true)
 (.guard ((zba a0.p.Links.Done.x1).isSome=true)
 (.guard ((zy (⟨a0.p.Links.Said.x1,a0.p.Links.Due.x1,a0.p.Links.Got.x1,a0.p.Links.Closed.x1⟩:zcd)).isSome=true)
 (.bind (zdi a0.p.Queue ((a0.p.Queue.length:Nat):Int) 0 a0 (default:za) ({ a0.p with Set:=v1,Links:={ a0.p.Links with Told:=(⟨((zaq a0.p.Links.Told.x0).getD default),((zaq a0.p.Links.Told.x1).getD default)⟩:(A2 (List Power))),Done:=(⟨((zba a0.p.Links.Done.x0).getD default),((zba a0.p.Links.Done.x1).getD default)⟩:(A2 (List Int))),Said:=(⟨((zy (⟨a0.p.Links.Said.x0,a0.p.Links.Due.x0,a0.p.Links.Got.x0,a0.p.Links.Closed.x0⟩:zcd)).getD default).Said,((zy (⟨a0.p.Links.Said.x1,a0.p.Links.Due.x1,a0.p.Links.Got.x1,a0.p.Links.Closed.x1⟩:zcd)).getD default).Said⟩:(A2 (List ByteArray))),Due:=(⟨((zy (⟨a0.p.Links.Said.x0,a0.p.Links.Due.x0,a0.p.Links.Got.x0,a0.p.Links.Closed.x0⟩:zcd)).getD default).Due,((zy (⟨a0.p.Links.Said.x1,a0.p.Links.Due.x1,a0.p.Links.Got.x1,a0.p.Links.Closed.x1⟩:zcd)).getD default).Due⟩:(A2 (List Int))),Got:=(⟨((zy (⟨a0.p.Links.Said.x0,a0.p.Links.Due.x0,a0.p.Links.Got.x0,a0.p.Links.Closed.x0⟩:zcd)).getD default).Got,((zy (⟨a0.p.Links.Said.x1,a0.p.Links.Due.x1,a0.p.Links.Got.x1,a0.p.Links.Closed.x1⟩:zcd)).getD default).Got⟩:(A2 Int)),Closed:=(⟨((zy (⟨a0.p.Links.Said.x0,a0.p.Links.Due.x0,a0.p.Links.Got.x0,a0.p.Links.Closed.x0⟩:zcd)).getD default).Closed,((zy (⟨a0.p.Links.Said.x1,a0.p.Links.Due.x1,a0.p.Links.Got.x1,a0.p.Links.Closed.x1⟩:zcd)).getD default).Closed⟩:(A2 Bool)) } }) []) fun v2 =>
 (.leaf ({ v2.2.2.1 with Queue:=v2.2.2.2 },v2.1)))))))))))
def z8 (a0:Wld):=(zfa a0).run
def zjq:SpecT:=zu 1 (LQ.kp 0 0 (LP.q zc4)) 1 [.cells 99 159] zfa default (LQ.map (LQ.seq (LQ.agg (LQ.v intP (LQ.v intP (LQ.seq (LP.q bankL) (LQ.seq (LP.q validatorsL) (LQ.seq (LP.q (a4L (a6L (LP.one intP)))) (LQ.k (LQ.c (.own 1)) (LQ.v intP (LQ.k (LQ.c (.own 2)) (LQ.v boolP (LQ.v boolP (LQ.v intP (LQ.k (LQ.c (.own 3)) (LQ.v boolP (LQ.k (LQ.c (.own 4)) (LQ.k (LQ.c (.own 5)) (LQ.k (LQ.c (.own 6)) (LQ.v intP (LQ.v boolP (LQ.v intP (LQ.v intP (LQ.v intP (LQ.v intP (LQ.v boolP (LQ.v boolP (LQ.v intP (LQ.k (LQ.c (.own 7)) (LQ.v boolP (LQ.k (LQ.c (.own 8)) (LQ.k (LQ.c (.own 9)) (LQ.k (LQ.c (.own 10)) (LQ.v intP (LQ.v boolP (LQ.v intP (LQ.v intP (LQ.v intP (LQ.v intP (LQ.skipR (LP.q meterL) (LQ.c (.own 11)))))))))))))))))))))))))))))))))))))))) (LQ.seq (LP.q zc4) (LQ.v zc6 (LQ.v zd (LQ.v zd (LQ.v zt (LQ.v zb6 (LQ.v zt (LQ.v zd (LQ.v zt (LQ.v zb6 (LQ.v zt (Par.q zbe))))))))))))) (fun x=>((⟨x.1.1,x.1.2.1,(⟨x.1.2.2.1,x.1.2.2.2.1,x.1.2.2.2.2.1,x.2.2.1,x.1.2.2.2.2.2.1⟩:Stake),x.2.2.2.1,(⟨(⟨x.1.2.2.2.2.2.2.1,x.1.2.2.2.2.2.2.2.2.2.2.2.2.2.2.2.2.1⟩:(A2 Bool)),(⟨x.1.2.2.2.2.2.2.2.1,x.1.2.2.2.2.2.2.2.2.2.2.2.2.2.2.2.2.2.1⟩:(A2 Bool)),(⟨x.1.2.2.2.2.2.2.2.2.1,x.1.2.2.2.2.2.2.2.2.2.2.2.2.2.2.2.2.2.2.1⟩:(A2 Int)),(⟨(d4 x).1,(d8 x).1⟩:(A2 (List Power))),(⟨x.1.2.2.2.2.2.2.2.2.2.1,x.1.2.2.2.2.2.2.2.2.2.2.2.2.2.2.2.2.2.2.2.1⟩:(A2 Bool)),(⟨(d4 x).2.1,(d8 x).2.1⟩:(A2 (List Int))),(⟨(d4 x).2.2.1,(d8 x).2.2.1⟩:(A2 (List ByteArray))),(⟨(d4 x).2.2.2.1,(d8 x).2.2.2.1⟩:(A2 (List Int))),(⟨x.1.2.2.2.2.2.2.2.2.2.2.1,x.1.2.2.2.2.2.2.2.2.2.2.2.2.2.2.2.2.2.2.2.2.1⟩:(A2 Int)),(⟨x.1.2.2.2.2.2.2.2.2.2.2.2.1,x.1.2.2.2.2.2.2.2.2.2.2.2.2.2.2.2.2.2.2.2.2.2.1⟩:(A2 Bool)),(⟨x.1.2.2.2.2.2.2.2.2.2.2.2.2.1,x.1.2.2.2.2.2.2.2.2.2.2.2.2.2.2.2.2.2.2.2.2.2.2.1⟩:(A2 Int)),(⟨x.1.2.2.2.2.2.2.2.2.2.2.2.2.2.1,x.1.2.2.2.2.2.2.2.2.2.2.2.2.2.2.2.2.2.2.2.2.2.2.2.1⟩:(A2 Int)),(⟨x.1.2.2.2.2.2.2.2.2.2.2.2.2.2.2.1,x.1.2.2.2.2.2.2.2.2.2.2.2.2.2.2.2.2.2.2.2.2.2.2.2.2.1⟩:(A2 Int)),(⟨x.1.2.2.2.2.2.2.2.2.2.2.2.2.2.2.2.1,x.1.2.2.2.2.2.2.2.2.2.2.2.2.2.2.2.2.2.2.2.2.2.2.2.2.2.1⟩:(A2 Int))⟩:Links),x.1.2.2.2.2.2.2.2.2.2.2.2.2.2.2.2.2.2.2.2.2.2.2.2.2.2.2,(d12 x)⟩:za),x.2.1)) (fun y=>((y.1.Height,y.1.Time,y.1.Stake.Bank,y.1.Stake.Validators,y.1.Stake.Shares,y.1.Stake.Next,y.1.Links.On.x0,y.1.Links.Gone.x0,y.1.Links.Base.x0,y.1.Links.Fresh.x0,y.1.Links.Got.x0,y.1.Links.Closed.x0,y.1.Links.SHeight.x0,y.1.Links.STime.x0,y.1.Links.SSaid.x0,y.1.Links.SGot.x0,y.1.Links.On.x1,y.1.Links.Gone.x1,y.1.Links.Base.x1,y.1.Links.Fresh.x1,y.1.Links.Got.x1,y.1.Links.Closed.x1,y.1.Links.SHeight.x1,y.1.Links.STime.x1,y.1.Links.SSaid.x1,y.1.Links.SGot.x1,y.1.Meter),y.2,y.1.Stake.Waits,y.1.Set,y.1.Links.Told.x0,y.1.Links.Done.x0,y.1.Links.Said.x0,y.1.Links.Due.x0,y.1.Links.Told.x1,y.1.Links.Done.x1,y.1.Links.Said.x1,y.1.Links.Due.x1,y.1.Queue)) (fun _=>rfl)) 1 [.cells 99 159,.rows 78,.rows 83,.rows 83,.rows 3,.rows 9,.rows 3,.rows 83,.rows 3,.rows 9,.rows 3,.rows 90]
theorem zq0:zg Tryz.prog 10 (zjq).spec :=
 sK (A:=⟨[([0,1,0,1,1,1,1,1,1,1],zanv)],[([0,1,0,1,1,1,1,1],3)],[[0,1,2,0,1,0,1,1,1,1,1],[0,1,3,0,1,0,1,1,1,1,1],[0,1,4,0,1,0,1,1,1,1,1],[1,0,1]],zaun,[]⟩) zaup fM Tryz.func10 (c:=(fb Tryz.f10)) (by kernel_rfl) (Lc:=1) ⟨zaus,trivial⟩ _ _ 19 _ _ _ _ _ _ [.pubN 0] (by rintro a0;kernel_rfl)
def zaut:List (List Nat):=[[0,1,4],[0,1,4,18],[4],[4,5],[4,5],[4,5,6],[4,5,6,39,40,41],[4,5,6,39,40,41,42],[4,5,6,8,39,40,41],[4,5,6,39,40,41],[4,5,6,39,40,41],[4,5],[4]]
noncomputable def zauu:EnvT:=⟨Tryz.prog,zad [(24,zi2),(26,zlm),(27,zs8)],false⟩
theorem zauv:(zauu).Ok:=zf ⟨zli,zpz,zzu,trivial⟩
def za3 (x0:(List Packet)) (x1 x2:Int) (x3:Wld) (x4 x5:zb) (x6:(List Packet)): Tr (((List Packet)×Int×Int×Wld×zb×zb×(List Packet))⊕(Wld×zb×zb×(List Packet))) :=
 (.ite (decide (x2 < x1))
  (.guard ((0:Int)≤x2∧x2 < ((Sl.len (.packets x0):Nat):Int))
  (.bind (zln (x0.getD x2.toNat default)) fun v1 =>
  (.guard ((x6.length+[v1].length)*80≤140737488355328)
  (.leaf (.inl (x0,x1,i64.wrap (x2+1),x3,x4,x5,x6++[v1]))))))
  (.leaf (.inr (x3,x4,x5,x6))))
def zdj (x0:(List Packet)) (x1 x2:Int) (x3:Wld) (x4 x5:zb) (x6:(List Packet)):=zcv (fun s:(List Packet)×Int×Int×Wld×zb×zb×(List Packet)=>(za3 s.1 s.2.1 s.2.2.1 s.2.2.2.1 s.2.2.2.2.1 s.2.2.2.2.2.1 s.2.2.2.2.2.2).run) (x0,x1,x2,x3,x4,x5,x6)
def zauw:Ann:=⟨[],[],[],zaut,[]⟩
def zaux:=EndD.mk (LQ.map (LQ.kp 1 0 (LQ.kp 2 0 (LQ.k (LQ.c (.nst 3 .whole)) (LQ.v zal (LQ.v intP (LQ.v intP (LQ.seq (LP.q zc4) (LQ.seq (LP.q z5) (LQ.v boolP (LQ.v boolP (LQ.v intP (LQ.v intP (LQ.v intP (LQ.k (LQ.c (.own 4)) (LQ.v zal (LQ.k (LQ.c (.own 5)) (LQ.seq (LP.q (a6L (LP.one boolP))) (LQ.k (LQ.c (.own 6)) (LQ.k (LQ.c (.own 7)) (LQ.v intP (LQ.v boolP (LQ.seq (LP.q zp6) (LQ.v zal (LQ.v zd (LQ.v zhw (LQ.v zb6 (Par.q zt))))))))))))))))))))))))))) (fun x=>(x.1,x.2.1,x.2.2.1,x.2.2.2.1,(d4 x).1,(⟨(d4 x).2.1,(d4 x).2.2.1,(d4 x).2.2.2.1,(d8 x).1,(d8 x).2.1,(d16 x).1,(d8 x).2.2.1,(d16 x).2.1,(d8 x).2.2.2.1,(⟨(d16 x).2.2.1,(d16 x).2.2.2,(d12 x).1,(d12 x).2.1⟩:zcd),(d12 x).2.2.1⟩:zb),(d12 x).2.2.2.1)) (fun y=>(y.1,y.2.1,y.2.2.1,y.2.2.2.1,(d4 y).1,(d4 y).2.1.On,(d4 y).2.1.Gone,(d4 y).2.1.Height,(d4 y).2.1.Time,(d4 y).2.1.Id,(d4 y).2.1.Pending,(d4 y).2.1.Flags,(d4 y).2.1.Out.Got,(d4 y).2.1.Out.Closed,(d4 y).2.1.Seen,(d4 y).2.2,(d4 y).2.1.Set,(d4 y).2.1.Ripes,(d4 y).2.1.Out.Said,(d4 y).2.1.Out.Due)) (fun _=>rfl)) ⟨[4,5,6,39,40,41],[.nilcell 5 5 83 (.powers []),.nilcell 5 7 93 (.ripes []),.nilcell 5 14 9 (.strs []),.nilcell 5 15 3 (.ints []),.nilnest 6 73 83,.pub 39,.nilsl 39 (.packets [])]⟩ [.cells 99 159,.cells 64 22,.cells 64 22,.nest 73 83 true,.rows 83,.rows 93,.rows 9,.rows 3]
def zak0:=EndD.mk (LQ.map (LQ.kp 1 0 (LQ.kp 2 0 (LQ.k (LQ.c (.nst 3 .whole)) (LQ.seq (LP.q zc4) (LQ.seq (LP.q z5) (LQ.v boolP (LQ.v boolP (LQ.v intP (LQ.v intP (LQ.v intP (LQ.k (LQ.c (.own 4)) (LQ.v zal (LQ.k (LQ.c (.own 5)) (LQ.seq (LP.q (a6L (LP.one boolP))) (LQ.k (LQ.c (.own 6)) (LQ.k (LQ.c (.own 7)) (LQ.v intP (LQ.v boolP (LQ.seq (LP.q zp6) (LQ.v zal (LQ.v zd (LQ.v zhw (LQ.v zb6 (Par.q zt)))))))))))))))))))))))) (fun x=>(x.1,x.2.1,(⟨x.2.2.1,x.2.2.2.1,(d4 x).1,(d4 x).2.1,(d4 x).2.2.1,(d12 x).2.1,(d4 x).2.2.2.1,(d12 x).2.2.1,(d8 x).1,(⟨(d12 x).2.2.2.1,(d16 x),(d8 x).2.1,(d8 x).2.2.1⟩:zcd),(d8 x).2.2.2.1⟩:zb),(d12 x).1)) (fun y=>(y.1,y.2.1,y.2.2.1.On,y.2.2.1.Gone,y.2.2.1.Height,y.2.2.1.Time,y.2.2.1.Id,y.2.2.1.Pending,y.2.2.1.Flags,y.2.2.1.Out.Got,y.2.2.1.Out.Closed,y.2.2.1.Seen,y.2.2.2,y.2.2.1.Set,y.2.2.1.Ripes,y.2.2.1.Out.Said,y.2.2.1.Out.Due)) (fun _=>rfl)) ⟨[4,5,6],[.nilcell 5 5 83 (.powers []),.nilcell 5 7 93 (.ripes []),.nilcell 5 14 9 (.strs []),.nilcell 5 15 3 (.ints [])]⟩ [.cells 99 159,.cells 64 22,.cells 64 22,.nest 73 83 true,.rows 83,.rows 93,.rows 9,.rows 3]
def zanw:St→Option LR:=L1 54 14 1 zaux (.exit 0) zak0 (u7 za3)
def zs114a:=sub (fb Tryz.f11) [0,1,0,1,1,1,1,1]
theorem zauy:zl (zauu).env 1 zs114a zanw :=
 zd1 (A:=zauw) zauv fM trivial (k:=za5 zs114a) (by kernel_rfl) rfl (by rintro ⟨x0,x1,x2,x3,x4,x5,x6⟩;kernel_rfl)
def zfb (a0:Int) (a1:Wld): Tr (zb×Wld) :=
 (.ite ((false||(decide (a0 < 0)))||(decide (a0≥2)))
  .fail
  (.guard ((0:Int)≤a0∧(a0:Int) < 2)
  (.guard ((zaq (a1.consumers.Set.get a0)).isSome=true)
  (.guard ((zy (zc a1.consumers a0).Out).isSome=true)
  (.guard ((0+Sl.len (.ripes (a1.consumers.Ripes.get a0)))*16≤140737488355328)
  (.bind (zdj (a1.consumers.Pending.get a0) (((a1.consumers.Pending.get a0).length:Nat):Int) 0 a1 (default:zb) ({ ((zc a1.consumers a0):zb) with Set:=((zaq (a1.consumers.Set.get a0)).getD default),Out:=((zy (zc a1.consumers a0).Out).getD default) }) []) fun v2 =>
  (.leaf ({ v2.2.2.1 with Pending:=v2.2.2.2 },v2.1))))))))
def z9 (a0:Int) (a1:Wld):=(zfb a0 a1).run
def zjr:SpecT:=zu 1 (LQ.kp 0 0 (LQ.v intP (LP.q zc4))) 2 [.cells 99 159] (u2 zfb) default (LQ.map (LQ.seq (LQ.agg (LQ.v boolP (LQ.v boolP (LQ.v intP (LQ.v intP (LQ.v intP (LQ.k (LQ.c (.own 1)) (LQ.k (LQ.c (.nst 2 .whole)) (LQ.k (LQ.c (.own 3)) (LQ.seq (LP.q (a6L (LP.one boolP))) (LQ.k (LQ.c (.own 4)) (LQ.k (LQ.c (.own 5)) (LQ.v intP (LQ.v boolP (LP.q zp6))))))))))))))) (LQ.seq (LP.q zc4) (LQ.v zd (LQ.v zal (LQ.v zhw (LQ.v zb6 (Par.q zt))))))) (fun x=>((⟨x.1.1,x.1.2.1,x.1.2.2.1,x.1.2.2.2.1,x.1.2.2.2.2.1,x.2.2.1,x.2.2.2.1,(d4 x).1,x.1.2.2.2.2.2.1,(⟨(d4 x).2.1,(d4 x).2.2,x.1.2.2.2.2.2.2.1,x.1.2.2.2.2.2.2.2.1⟩:zcd),x.1.2.2.2.2.2.2.2.2⟩:zb),x.2.1)) (fun y=>((y.1.On,y.1.Gone,y.1.Height,y.1.Time,y.1.Id,y.1.Flags,y.1.Out.Got,y.1.Out.Closed,y.1.Seen),y.2,y.1.Set,y.1.Pending,y.1.Ripes,y.1.Out.Said,y.1.Out.Due)) (fun _=>rfl)) 1 [.cells 99 159,.rows 83,.nest 73 83 true,.rows 93,.rows 9,.rows 3]
theorem zq1:zg Tryz.prog 11 (zjr).spec :=
 sK (A:=⟨[([0,1,0,1,1,1,1,1],zanw)],[],[],zaut,[]⟩) zauv fM Tryz.func11 (c:=(fb Tryz.f11)) (by kernel_rfl) (Lc:=1) ⟨zauy,trivial⟩ _ _ 14 _ _ _ _ _ _ [.pubN 0] (by rintro ⟨a0,a1⟩;kernel_rfl)
noncomputable def za28:EnvT:=⟨Tryz.prog,zad [(113,zl2)],false⟩
theorem za29:(za28).Ok:=zf ⟨zoh,trivial⟩
def zuj (a0:zcd) (a1:Bool): Tr (ByteArray) :=
 (.ite (decide (a0.Got < ((a0.Said.length:Nat):Int)))
  (.guard ((0:Int)≤a0.Got∧a0.Got < ((Sl.len (.strs a0.Said):Nat):Int))
  (.ite (!a1)
   (.leaf (a0.Said.getD a0.Got.toNat .empty))
   (.bind (zbg (⟨3,1,0,i64.wrap (1+(((a0.Said.getD a0.Got.toNat .empty).size:Nat):Int)),[],[]⟩:Packet)) fun v1 =>
   (.leaf v1.1))))
  (.ite (!a1)
   (.leaf (⟨#[]⟩:ByteArray))
   (.bind (zbg (⟨3,1,0,i64.wrap (1+(((⟨#[]⟩:ByteArray).size:Nat):Int)),[],[]⟩:Packet)) fun v2 =>
   (.leaf v2.1))))
def znu (a0:zcd) (a1:Bool):=(zuj a0 a1).run
def z0q:SpecT:=zu 0 (LQ.v (Par.ofLP lineL) (Par.q boolP)) 2 [] (u2 zuj) default (Par.q strP) 1 []
theorem z7b:zg Tryz.prog 78 (z0q).spec :=
 sK (A:=⟨[],[],[],[[1,2],[1,2,5],[1,2,5,11],[1,5],[5,19],[4],[5],[4]],[]⟩) za29 fM Tryz.func78 (c:=(fb Tryz.f78)) (by kernel_rfl) (Lc:=0) trivial _ _ 3 _ _ _ _ _ _ [] (by rintro ⟨a0,a1⟩;kernel_rfl)
def zauz:List (List Nat):=[[0,2],[0,2,3,4,5],[0,2,3,4,5,21],[2],[0,2,3,4],[0,2,3,4,28],[0,2,3,4,28,29],[0,2,3,4,6,28],[0,2,3,4,28],[0,2,3,4,28],[2]]
noncomputable def zau0:EnvT:=⟨Tryz.prog,zad [(46,zv2)],false⟩
theorem zau1:(zau0).Ok:=zf ⟨z2s,trivial⟩
def za1 (x0:(List Int)) (x1:Int) (x2:Wld) (x3:Reply) (x4:za): Tr (((List Int)×Int×Wld×Reply×za)⊕((List Int)×Wld×Reply)) :=
 (.ite (decide (x1 < 2))
  (.guard ((0:Int)≤x1∧(x1:Int) < 2)
  (.guard ((0:Int)≤x1∧(x1:Int) < 2)
  (.guard ((0:Int)≤x1∧(x1:Int) < 2)
  (.guard ((0:Int)≤0∧(0:Int) < 2)
  (.leaf (.inl (x0,i64.wrap (x1+1),{ x2 with heads:={ x2.heads with PHeight:=(x2.heads.PHeight.set x1 x4.Height),PTime:=(x2.heads.PTime.set x1 x4.Time),PSaid:=(x2.heads.PSaid.set x1 (((x4.Links.Said.get x1).length:Nat):Int)),PGot:=(x2.heads.PGot.set x1 (x2.consumers.Got.get x1)) } },x3,x4)))))))
  (.leaf (.inr (x0,x2,x3))))
def zen (x0:(List Int)) (x1:Int) (x2:Wld) (x3:Reply) (x4:za):=zcv (fun s:(List Int)×Int×Wld×Reply×za=>(za1 s.1 s.2.1 s.2.2.1 s.2.2.2.1 s.2.2.2.2).run) (x0,x1,x2,x3,x4)
def zau2:Ann:=⟨[],[],[],zauz,[]⟩
def zau3:=EndD.mk (LQ.kp 0 0 (LQ.kp 1 0 (LQ.kp 2 0 (LQ.v zt (LQ.v intP (LQ.seq (LP.q zc4) (LQ.seq (LP.q z0c) (LP.q providerL)))))))) ⟨[0,2,3,4,28],[.pub 4,.nilsl 4 (.ints [])]⟩ [.cells 99 159,.cells 32 2,.cells 58 97]
def zak1:=EndD.mk (LQ.kp 1 0 (LQ.v zt (LQ.seq (LP.q zc4) (LP.q z0c)))) ⟨[2,4],[.pub 4,.nilsl 4 (.ints [])]⟩ [.cells 99 159,.cells 32 2]
def zanx:St→Option LR:=L1 61 5 1 zau3 (.exit 0) zak1 (u5 za1)
def zs116a:=sub (fb Tryz.f34) [0,1,0,1,1,1,1]
theorem zau4:zl (zau0).env 1 zs116a zanx :=
 zd1 (A:=zau2) zau1 fM trivial (k:=za5 zs116a) (by kernel_rfl) rfl (by rintro ⟨x0,x1,x2,x3,x4⟩;kernel_rfl)
def zg6 (a0:Wld): Tr (Reply×Wld) :=
 (.guard ((zcm a0.p a0.clock).isSome=true)
 (.ite (((zcm a0.p a0.clock).getD default).2.2 != 0)
  (.leaf ((⟨((zcm a0.p a0.clock).getD default).2.2,0⟩:Reply),a0))
  (.bind (zen ((zcm a0.p a0.clock).getD default).2.1 0 ({ a0 with p:=((zcm a0.p a0.clock).getD default).1 }) (⟨0,0⟩:Reply) ((zcm a0.p a0.clock).getD default).1) fun v1 =>
  (.leaf ((⟨0,((v1.1.length:Nat):Int)⟩:Reply),v1.2.1)))))
def zgf (a0:Wld):=(zg6 a0).run
def zmj:SpecT:=zu 1 (LQ.kp 0 0 (LP.q zc4)) 1 [.cells 99 159] zg6 default (LQ.v (Par.ofLP z0c) (LP.q zc4)) 1 [.cells 99 159]
theorem ztc:zg Tryz.prog 34 (zmj).spec :=
 sK (A:=⟨[([0,1,0,1,1,1,1],zanx)],[],[],zauz,[]⟩) zau1 fM Tryz.func34 (c:=(fb Tryz.f34)) (by kernel_rfl) (Lc:=1) ⟨zau4,trivial⟩ _ _ 5 _ _ _ _ _ _ [.pubN 0] (by rintro a0;kernel_rfl)
noncomputable def za3a:EnvT:=⟨Tryz.prog,zad [(78,z0q),(79,zvu),(80,zub),(81,zt9)],false⟩
theorem za3b:(za3a).Ok:=zf ⟨z7b,z2g,z0y,z0w,trivial⟩
def zg7 (a0:Deed) (a1:Wld): Tr (Reply×Wld) :=
 (.guard ((0:Int)≤a0.C∧(a0.C:Int) < 2)
 (.guard ((0:Int)≤a0.C∧(a0.C:Int) < 2)
 (.ite (a0.Back)
  (.bind (znu (zc a1.consumers a0.C).Out a0.Forged) fun v1 =>
  (.guard ((zk (zc a1.consumers a0.C).Out (i64.wrap ((a1.consumers.Got.get a0.C)+1)) v1 (a1.p.Links.SSaid.get a0.C) a1.clock).isSome=true)
  (.ite (((zk (zc a1.consumers a0.C).Out (i64.wrap ((a1.consumers.Got.get a0.C)+1)) v1 (a1.p.Links.SSaid.get a0.C) a1.clock).getD default).2 != 0)
   (.leaf ((⟨((zk (zc a1.consumers a0.C).Out (i64.wrap ((a1.consumers.Got.get a0.C)+1)) v1 (a1.p.Links.SSaid.get a0.C) a1.clock).getD default).2,0⟩:Reply),a1))
   (.ite (a0.Back)
    (.guard ((za4 a1.p a0.C v1).isSome=true)
    (.ite (((za4 a1.p a0.C v1).getD default).2 != 0)
     (.leaf ((⟨((za4 a1.p a0.C v1).getD default).2,0⟩:Reply),a1))
     (.leaf ((⟨0,((zk (zc a1.consumers a0.C).Out (i64.wrap ((a1.consumers.Got.get a0.C)+1)) v1 (a1.p.Links.SSaid.get a0.C) a1.clock).getD default).1.Got⟩:Reply),{ a1 with p:=((za4 a1.p a0.C v1).getD default).1,consumers:={ a1.consumers with Said:=(a1.consumers.Said.set a0.C ((zk (zc a1.consumers a0.C).Out (i64.wrap ((a1.consumers.Got.get a0.C)+1)) v1 (a1.p.Links.SSaid.get a0.C) a1.clock).getD default).1.Said),Due:=(a1.consumers.Due.set a0.C ((zk (zc a1.consumers a0.C).Out (i64.wrap ((a1.consumers.Got.get a0.C)+1)) v1 (a1.p.Links.SSaid.get a0.C) a1.clock).getD default).1.Due),Got:=(a1.consumers.Got.set a0.C ((zk (zc a1.consumers a0.C).Out (i64.wrap ((a1.consumers.Got.get a0.C)+1)) v1 (a1.p.Links.SSaid.get a0.C) a1.clock).getD default).1.Got),Closed:=(a1.consumers.Closed.set a0.C ((zk (zc a1.consumers a0.C).Out (i64.wrap ((a1.consumers.Got.get a0.C)+1)) v1 (a1.p.Links.SSaid.get a0.C) a1.clock).getD default).1.Closed) } }))))
    (.bind (ziz (zc a1.consumers a0.C) v1) fun v2 =>
    (.ite (v2.2 != 0)
     (.leaf ((⟨v2.2,0⟩:Reply),a1))
     (.leaf ((⟨0,((zk (zc a1.consumers a0.C).Out (i64.wrap ((a1.consumers.Got.get a0.C)+1)) v1 (a1.p.Links.SSaid.get a0.C) a1.clock).getD default).1.Got⟩:Reply),{ a1 with p:={ a1.p with Links:={ a1.p.Links with Said:=(a1.p.Links.Said.set a0.C ((zk (zc a1.consumers a0.C).Out (i64.wrap ((a1.consumers.Got.get a0.C)+1)) v1 (a1.p.Links.SSaid.get a0.C) a1.clock).getD default).1.Said),Due:=(a1.p.Links.Due.set a0.C ((zk (zc a1.consumers a0.C).Out (i64.wrap ((a1.consumers.Got.get a0.C)+1)) v1 (a1.p.Links.SSaid.get a0.C) a1.clock).getD default).1.Due),Got:=(a1.p.Links.Got.set a0.C ((zk (zc a1.consumers a0.C).Out (i64.wrap ((a1.consumers.Got.get a0.C)+1)) v1 (a1.p.Links.SSaid.get a0.C) a1.clock).getD default).1.Got),Closed:=(a1.p.Links.Closed.set a0.C ((zk (zc a1.consumers a0.C).Out (i64.wrap ((a1.consumers.Got.get a0.C)+1)) v1 (a1.p.Links.SSaid.get a0.C) a1.clock).getD default).1.Closed) } },consumers:=(zny a1.consumers a0.C v2.1) }))))))))
  (.bind (znu (zh a1.p.Links a0.C).Out a0.Forged) fun v3 =>
  (.guard ((zk (zh a1.p.Links a0.C).Out (i64.wrap ((a1.p.Links.Got.get a0.C)+1)) v3 (a1.consumers.SSaid.get a0.C) a1.clock).isSome=true)
  (.ite (((zk (zh a1.p.Links a0.C).Out (i64.wrap ((a1.p.Links.Got.get a0.C)+1)) v3 (a1.consumers.SSaid.get a0.C) a1.clock).getD default).2 != 0)
   (.leaf ((⟨((zk (zh a1.p.Links a0.C).Out (i64.wrap ((a1.p.Links.Got.get a0.C)+1)) v3 (a1.consumers.SSaid.get a0.C) a1.clock).getD default).2,0⟩:Reply),a1))
   (.ite (a0.Back)
    (.guard ((za4 a1.p a0.C v3).isSome=true)
    (.ite (((za4 a1.p a0.C v3).getD default).2 != 0)
     (.leaf ((⟨((za4 a1.p a0.C v3).getD default).2,0⟩:Reply),a1))
     (.leaf ((⟨0,((zk (zh a1.p.Links a0.C).Out (i64.wrap ((a1.p.Links.Got.get a0.C)+1)) v3 (a1.consumers.SSaid.get a0.C) a1.clock).getD default).1.Got⟩:Reply),{ a1 with p:=((za4 a1.p a0.C v3).getD default).1,consumers:={ a1.consumers with Said:=(a1.consumers.Said.set a0.C ((zk (zh a1.p.Links a0.C).Out (i64.wrap ((a1.p.Links.Got.get a0.C)+1)) v3 (a1.consumers.SSaid.get a0.C) a1.clock).getD default).1.Said),Due:=(a1.consumers.Due.set a0.C ((zk (zh a1.p.Links a0.C).Out (i64.wrap ((a1.p.Links.Got.get a0.C)+1)) v3 (a1.consumers.SSaid.get a0.C) a1.clock).getD default).1.Due),Got:=(a1.consumers.Got.set a0.C ((zk (zh a1.p.Links a0.C).Out (i64.wrap ((a1.p.Links.Got.get a0.C)+1)) v3 (a1.consumers.SSaid.get a0.C) a1.clock).getD default).1.Got),Closed:=(a1.consumers.Closed.set a0.C ((zk (zh a1.p.Links a0.C).Out (i64.wrap ((a1.p.Links.Got.get a0.C)+1)) v3 (a1.consumers.SSaid.get a0.C) a1.clock).getD default).1.Closed) } }))))
    (.bind (ziz (zc a1.consumers a0.C) v3) fun v4 =>
    (.ite (v4.2 != 0)
     (.leaf ((⟨v4.2,0⟩:Reply),a1))
     (.leaf ((⟨0,((zk (zh a1.p.Links a0.C).Out (i64.wrap ((a1.p.Links.Got.get a0.C)+1)) v3 (a1.consumers.SSaid.get a0.C) a1.clock).getD default).1.Got⟩:Reply),{ a1 with p:={ a1.p with Links:={ a1.p.Links with Said:=(a1.p.Links.Said.set a0.C ((zk (zh a1.p.Links a0.C).Out (i64.wrap ((a1.p.Links.Got.get a0.C)+1)) v3 (a1.consumers.SSaid.get a0.C) a1.clock).getD default).1.Said),Due:=(a1.p.Links.Due.set a0.C ((zk (zh a1.p.Links a0.C).Out (i64.wrap ((a1.p.Links.Got.get a0.C)+1)) v3 (a1.consumers.SSaid.get a0.C) a1.clock).getD default).1.Due),Got:=(a1.p.Links.Got.set a0.C ((zk (zh a1.p.Links a0.C).Out (i64.wrap ((a1.p.Links.Got.get a0.C)+1)) v3 (a1.consumers.SSaid.get a0.C) a1.clock).getD default).1.Got),Closed:=(a1.p.Links.Closed.set a0.C ((zk (zh a1.p.Links a0.C).Out (i64.wrap ((a1.p.Links.Got.get a0.C)+1)) v3 (a1.consumers.SSaid.get a0.C) a1.clock).getD default).1.Closed) } },consumers:=(zny a1.consumers a0.C v4.1) })))))))))))
def zgg (a0:Deed) (a1:Wld):=(zg7 a0 a1).run
def zmk:SpecT:=zu 1 (LQ.kp 0 0 (LQ.v (Par.ofLP deedL) (LP.q zc4))) 2 [.cells 99 159] (u2 zg7) default (LQ.v (Par.ofLP z0c) (LP.q zc4)) 1 [.cells 99 159]
theorem ztd:zg Tryz.prog 50 (zmk).spec :=
 sK (A:=⟨[],[],[],[[0,3,4],[0,3,4,5,6],[0,3,4,5,6,7,8],[0,3,4,5,6,7,8,37],[0,3,4,5,6,7,8],[0,3,4,5,6,7,8,9],[0,3,4,5,6,7,9,10],[0,3,4,5,6,7,9,10,66],[4],[0,3,4,5,6,7,9,70],[0,4,5,7,11,12],[0,4,5,7,11,12,83],[4],[4,7],[4],[4,5,6,7,10,13],[4,5,6,7,10,13,106],[4],[4,7],[4]],[]⟩) za3b fM Tryz.func50 (c:=(fb Tryz.f50)) (by kernel_rfl) (Lc:=1) trivial _ _ 7 _ _ _ _ _ _ [.pubN 0] (by rintro ⟨a0,a1⟩;kernel_rfl)
noncomputable def za3c:EnvT:=⟨Tryz.prog,zad [(82,zyj),(83,zrn),(84,zrl)],false⟩
theorem za3d:(za3c).Ok:=zf ⟨z4n,zyr,zyp,trivial⟩
def zia (a0:Deed) (a1:Wld): Tr (Reply×Wld) :=
 (.guard ((0:Int)≤a0.C∧(a0.C:Int) < 2)
 (.guard ((0:Int)≤a0.C∧(a0.C:Int) < 2)
 (.ite (a0.Back)
  (.bind (zl0 (zc a1.consumers a0.C).Out a0.N (a1.consumers.STime.get a0.C) (a1.consumers.SGot.get a0.C)) fun v1 =>
  (.ite (v1.2 != 0)
   (.leaf ((⟨v1.2,0⟩:Reply),a1))
   (.guard ((zc0 a1.p a0.C).isSome=true)
   (.bind (zgs (zc a1.consumers a0.C)) fun v2 =>
   (.leaf ((⟨0,0⟩:Reply),{ a1 with p:=((zc0 a1.p a0.C).getD default),consumers:=(zny a1.consumers a0.C v2) }))))))
  (.bind (zl0 (zh a1.p.Links a0.C).Out a0.N (a1.p.Links.STime.get a0.C) (a1.p.Links.SGot.get a0.C)) fun v3 =>
  (.ite (v3.2 != 0)
   (.leaf ((⟨v3.2,0⟩:Reply),a1))
   (.guard ((zc0 a1.p a0.C).isSome=true)
   (.bind (zgs (zc a1.consumers a0.C)) fun v4 =>
   (.leaf ((⟨0,0⟩:Reply),{ a1 with p:=((zc0 a1.p a0.C).getD default),consumers:=(zny a1.consumers a0.C v4) })))))))))
def zg8 (a0:Deed) (a1:Wld):=(zia a0 a1).run
def znc:SpecT:=zu 1 (LQ.kp 0 0 (LQ.v (Par.ofLP deedL) (LP.q zc4))) 2 [.cells 99 159] (u2 zia) default (LQ.v (Par.ofLP z0c) (LP.q zc4)) 1 [.cells 99 159]
theorem zuk:zg Tryz.prog 51 (znc).spec :=
 sK (A:=⟨[],[],[],[[0,3,4],[0,3,4,5,6],[0,3,4,5,7,8],[0,3,4,5,7,8,33],[0,3,4,5,7,8],[0,3,4,5,10],[0,3,4,5,10,54],[4],[4,5],[4],[4]],[]⟩) za3d fM Tryz.func51 (c:=(fb Tryz.f51)) (by kernel_rfl) (Lc:=1) trivial _ _ 8 _ _ _ _ _ _ [.pubN 0] (by rintro ⟨a0,a1⟩;kernel_rfl)
noncomputable def za3e:EnvT:=⟨Tryz.prog,zad [(47,zs7),(48,zs6),(49,zvy),(50,zmk),(51,znc),(52,zua),(53,zrk)],false⟩
theorem za3f:(za3e).Ok:=zf ⟨zzt,zzs,z2o,ztd,zuk,z0x,zyo,trivial⟩
def zg9 (a0:Deed) (a1:Wld): Tr (Reply×Wld) :=
 (.ite ((decide (a0.Kind < 4))||(decide (a0.Kind > 12)))
  (.leaf ((⟨3,0⟩:Reply),a1))
  (.ite ((decide (a0.C < 0))||(decide (a0.C≥2)))
   (.leaf ((⟨4,0⟩:Reply),a1))
   (.guard ((0:Int)≤a0.C∧(a0.C:Int) < 2)
   (.ite ((a0.Kind != 4)&&(!(a1.consumers.On.get a0.C)))
    (.leaf ((⟨4,0⟩:Reply),a1))
    (.ite (a0.Kind==4)
     (.guard ((zap a1.p a0.C).isSome=true)
     (.ite (((zap a1.p a0.C).getD default).2 != 0)
      (.leaf ((⟨((zap a1.p a0.C).getD default).2,0⟩:Reply),a1))
      (.guard ((zhu ((zap a1.p a0.C).getD default).1.Set ((zap a1.p a0.C).getD default).1.Height a1.clock).isSome=true)
      (.guard ((0:Int)≤a0.C∧(a0.C:Int) < 2)
      (.leaf ((⟨0,((zap a1.p a0.C).getD default).1.Height⟩:Reply),(⟨a1.clock,((zap a1.p a0.C).getD default).1,(zny a1.consumers a0.C ((zhu ((zap a1.p a0.C).getD default).1.Set ((zap a1.p a0.C).getD default).1.Height a1.clock).getD default)),(⟨(a1.heads.PHeight.set a0.C 0),(a1.heads.PTime.set a0.C 0),(a1.heads.PSaid.set a0.C 0),(a1.heads.PGot.set a0.C 0),(a1.heads.CHeight.set a0.C 0),(a1.heads.CTime.set a0.C 0),(a1.heads.CSaid.set a0.C 0),(a1.heads.CGot.set a0.C 0)⟩:zvc),a1.deeds⟩:Wld)))))))
     (.ite (a0.Kind==7)
      (.guard ((zz (zc a1.consumers a0.C) a1.clock).isSome=true)
      (.ite (((zz (zc a1.consumers a0.C) a1.clock).getD default).2==0)
       (.guard ((0:Int)≤a0.C∧(a0.C:Int) < 2)
       (.guard ((0:Int)≤a0.C∧(a0.C:Int) < 2)
       (.guard ((0:Int)≤1∧(1:Int) < 2)
       (.ite (((zz (zc a1.consumers a0.C) a1.clock).getD default).2 != 0)
        (.leaf ((⟨((zz (zc a1.consumers a0.C) a1.clock).getD default).2,0⟩:Reply),{ a1 with heads:={ a1.heads with CHeight:=(a1.heads.CHeight.set a0.C ((zz (zc a1.consumers a0.C) a1.clock).getD default).1.Height),CTime:=(a1.heads.CTime.set a0.C ((zz (zc a1.consumers a0.C) a1.clock).getD default).1.Time),CSaid:=(a1.heads.CSaid.set a0.C ((((zz (zc a1.consumers a0.C) a1.clock).getD default).1.Out.Said.length:Nat):Int)),CGot:=(a1.heads.CGot.set a0.C (a1.p.Links.Got.get a0.C)) } }))
        (.leaf ((⟨0,0⟩:Reply),{ a1 with consumers:=(zny a1.consumers a0.C ((zz (zc a1.consumers a0.C) a1.clock).getD default).1),heads:={ a1.heads with CHeight:=(a1.heads.CHeight.set a0.C ((zz (zc a1.consumers a0.C) a1.clock).getD default).1.Height),CTime:=(a1.heads.CTime.set a0.C ((zz (zc a1.consumers a0.C) a1.clock).getD default).1.Time),CSaid:=(a1.heads.CSaid.set a0.C ((((zz (zc a1.consumers a0.C) a1.clock).getD default).1.Out.Said.length:Nat):Int)),CGot:=(a1.heads.CGot.set a0.C (a1.p.Links.Got.get a0.C)) } }))))))
       (.ite (((zz (zc a1.consumers a0.C) a1.clock).getD default).2 != 0)
        (.leaf ((⟨((zz (zc a1.consumers a0.C) a1.clock).getD default).2,0⟩:Reply),a1))
        (.leaf ((⟨0,0⟩:Reply),{ a1 with consumers:=(zny a1.consumers a0.C ((zz (zc a1.consumers a0.C) a1.clock).getD default).1) })))))
      (.ite (a0.Kind==8)
       (.ite (a0.Back)
        (.guard ((0:Int)≤a0.C∧(a0.C:Int) < 2)
        (.guard ((0:Int)≤1∧(1:Int) < 2)
        (.guard ((0:Int)≤a0.C∧(a0.C:Int) < 2)
        (.ite (false)
         (.leaf ((⟨0,0⟩:Reply),{ a1 with p:={ a1.p with Links:={ a1.p.Links with SHeight:=(a1.p.Links.SHeight.set a0.C (a1.heads.CHeight.get a0.C)),STime:=(a1.p.Links.STime.set a0.C (a1.heads.CTime.get a0.C)),SSaid:=(a1.p.Links.SSaid.set a0.C (a1.heads.CSaid.get a0.C)),SGot:=(a1.p.Links.SGot.set a0.C (a1.heads.CGot.get a0.C)) } } }))
         (.leaf ((⟨0,0⟩:Reply),{ a1 with p:={ a1.p with Links:={ a1.p.Links with SHeight:=(a1.p.Links.SHeight.set a0.C (a1.heads.CHeight.get a0.C)),STime:=(a1.p.Links.STime.set a0.C (a1.heads.CTime.get a0.C)),SSaid:=(a1.p.Links.SSaid.set a0.C (a1.heads.CSaid.get a0.C)),SGot:=(a1.p.Links.SGot.set a0.C (a1.heads.CGot.get a0.C)) } },consumers:=(zny a1.consumers a0.C (zc a1.consumers a0.C)) }))))))
        (.guard ((0:Int)≤a0.C∧(a0.C:Int) < 2)
        (.guard ((0:Int)≤0∧(0:Int) < 2)
        (.ite (false)
         (.leaf ((⟨0,0⟩:Reply),a1))
         (.leaf ((⟨0,0⟩:Reply),{ a1 with consumers:=(zny a1.consumers a0.C ({ ((zc a1.consumers a0.C):zb) with Seen:=(⟨a1.heads.PHeight.get a0.C,a1.heads.PTime.get a0.C,a1.heads.PSaid.get a0.C,a1.heads.PGot.get a0.C⟩:Head) })) }))))))
       (.ite (a0.Kind==9)
        (.bind (zgg a0 a1) fun v1 =>
        (.leaf (v1.1,v1.2)))
        (.ite (a0.Kind==10)
         (.bind (zg8 a0 a1) fun v2 =>
         (.leaf (v2.1,v2.2)))
         (.ite (a0.Kind==11)
          (.guard ((zea (zc a1.consumers a0.C) a0.V a1.clock).isSome=true)
          (.ite (((zea (zc a1.consumers a0.C) a0.V a1.clock).getD default).2 != 0)
           (.leaf ((⟨((zea (zc a1.consumers a0.C) a0.V a1.clock).getD default).2,0⟩:Reply),a1))
           (.leaf ((⟨0,0⟩:Reply),{ a1 with consumers:=(zny a1.consumers a0.C ((zea (zc a1.consumers a0.C) a0.V a1.clock).getD default).1) }))))
          (.ite (a0.Kind==12)
           (.guard ((zcy (zc a1.consumers a0.C) a0.V a0.N a1.clock).isSome=true)
           (.ite (((zcy (zc a1.consumers a0.C) a0.V a0.N a1.clock).getD default).2 != 0)
            (.leaf ((⟨((zcy (zc a1.consumers a0.C) a0.V a0.N a1.clock).getD default).2,0⟩:Reply),a1))
            (.leaf ((⟨0,0⟩:Reply),{ a1 with consumers:=(zny a1.consumers a0.C ((zcy (zc a1.consumers a0.C) a0.V a0.N a1.clock).getD default).1) }))))
           (.ite (false)
            (.leaf ((⟨0,0⟩:Reply),a1))
            (.leaf ((⟨0,0⟩:Reply),{ a1 with consumers:=(zny a1.consumers a0.C (zc a1.consumers a0.C)) }))))))))))))))
def zgh (a0:Deed) (a1:Wld):=(zg9 a0 a1).run
def zml:SpecT:=zu 1 (LQ.kp 0 0 (LQ.v (Par.ofLP deedL) (LP.q zc4))) 2 [.cells 99 159] (u2 zg9) default (LQ.v (Par.ofLP z0c) (LP.q zc4)) 1 [.cells 99 159]
theorem zte:zg Tryz.prog 35 (zml).spec :=
 sK (A:=⟨[],[],[],[[0,3,4],[0,3,4,17],[4],[0,3,4,26],[4],[0,3,4,5],[0,3,4,5,43],[4],[0,3,4,5,6],[0,3,4,5,6,7],[0,3,4,5,6,7,49],[0,3,4,5,6,7,49,50],[0,3,4,5,8,9],[0,3,4,5,8,9,63],[4],[0,3,4,8],[4,8],[4],[0,3,4,5,6,7,49,91],[0,3,4,5,6,7],[0,3,4,5,6,7,103],[4,5,6,7],[0,3,4,5,6,7,49,130],[0,3,4,5,6,7,133],[4,5,6,7],[4,5,6,7],[0,3,4,5,6,7,49,159],[4],[0,3,4,5,6,7,49,164],[4],[0,3,4,5,6,7,49,169],[4,5,6,7],[0,3,4,5,6,7,182],[4,5,6,7],[4,5,6,7,198],[4],[4],[4]],[]⟩) za3f fM Tryz.func35 (c:=(fb Tryz.f35)) (by kernel_rfl) (Lc:=1) trivial _ _ 7 _ _ _ _ _ _ [.pubN 0] (by rintro ⟨a0,a1⟩;kernel_rfl)
noncomputable def za3g:EnvT:=⟨Tryz.prog,zad [(30,zox),(31,zmg),(32,zvx),(33,zoz),(34,zmj),(35,zml)],false⟩
theorem za3h:(za3g).Ok:=zf ⟨zvf,ztb,z2l,zvg,ztc,zte,trivial⟩
def zm5 (a0:Deed) (a1:Wld): Tr (Reply×Wld) :=
 (.ite (decide (a1.deeds≥600))
  (.leaf ((⟨6,0⟩:Reply),a1))
  (.ite (a0.Kind==1)
   (.bind (zh1 a1.p a0.D a0.V a0.N) fun v1 =>
   (.ite (v1.2 != 0)
    (.leaf ((⟨v1.2,0⟩:Reply),{ a1 with deeds:=i64.wrap (a1.deeds+1) }))
    (.leaf ((⟨0,0⟩:Reply),{ a1 with p:=v1.1,deeds:=i64.wrap (a1.deeds+1) }))))
   (.ite (a0.Kind==2)
    (.guard ((zbd a1.p a0.D a0.V a0.N a1.clock).isSome=true)
    (.ite (((zbd a1.p a0.D a0.V a0.N a1.clock).getD default).2 != 0)
     (.leaf ((⟨((zbd a1.p a0.D a0.V a0.N a1.clock).getD default).2,0⟩:Reply),{ a1 with deeds:=i64.wrap (a1.deeds+1) }))
     (.leaf ((⟨0,0⟩:Reply),{ a1 with p:=((zbd a1.p a0.D a0.V a0.N a1.clock).getD default).1,deeds:=i64.wrap (a1.deeds+1) }))))
    (.ite (a0.Kind==3)
     (.bind (zom a1.p.Stake a0.V) fun v2 =>
     (.ite (v2.2 != 0)
      (.leaf ((⟨v2.2,0⟩:Reply),{ a1 with deeds:=i64.wrap (a1.deeds+1) }))
      (.leaf ((⟨0,0⟩:Reply),{ a1 with p:={ a1.p with Stake:=v2.1 },deeds:=i64.wrap (a1.deeds+1) }))))
     (.ite (a0.Kind==13)
      (.bind (zh7 a1.p a0.V a0.N) fun v3 =>
      (.ite (v3.2 != 0)
       (.leaf ((⟨v3.2,0⟩:Reply),{ a1 with deeds:=i64.wrap (a1.deeds+1) }))
       (.leaf ((⟨0,0⟩:Reply),{ a1 with p:=v3.1,deeds:=i64.wrap (a1.deeds+1) }))))
      (.ite (a0.Kind==5)
       (.ite ((decide (a0.N < 1))||(decide (a0.N > (i64.wrap (1099511627736 - a1.clock)))))
        (.leaf ((⟨2,0⟩:Reply),{ a1 with deeds:=i64.wrap (a1.deeds+1) }))
        (.leaf ((⟨0,i64.wrap (a1.clock+a0.N)⟩:Reply),{ a1 with clock:=i64.wrap (a1.clock+a0.N),deeds:=i64.wrap (a1.deeds+1) })))
       (.ite (a0.Kind==6)
        (.bind (zgf ({ a1 with deeds:=i64.wrap (a1.deeds+1) })) fun v4 =>
        (.leaf (v4.1,v4.2)))
        (.bind (zgh a0 ({ a1 with deeds:=i64.wrap (a1.deeds+1) })) fun v5 =>
        (.leaf (v5.1,v5.2))))))))))
def zx (a0:Deed) (a1:Wld):=(zm5 a0 a1).run
def zi3:SpecT:=zu 1 (LQ.kp 0 0 (LQ.v (Par.ofLP deedL) (LP.q zc4))) 2 [.cells 99 159] (u2 zm5) default (LQ.v (Par.ofLP z0c) (LP.q zc4)) 1 [.cells 99 159]
theorem zlo:zg Tryz.prog 17 (zi3).spec :=
 sK (A:=⟨[],[],[[1,0,0,1]],[[0,3,4],[0,3,4,7],[4],[0,3,4,11],[4],[0,3,4],[0,3,4],[0,3,4,6],[0,3,4,6,30],[4],[0,3,4,6,30,34],[0,4,5,6],[0,3,4,6,30,47],[0,4,5,6],[0,3,4,6,30,64],[0,4,5,6],[0,3,4,6,30,75],[0,4,5,6],[0,3,4,30,86],[0,3,4,100],[4],[0,4],[4],[0,3,4,116],[4],[0,4,5,6,121],[4],[4],[4]],[]⟩) za3h fM Tryz.func17 (c:=(fb Tryz.f17)) (by kernel_rfl) (Lc:=1) trivial _ _ 6 _ _ _ _ _ _ [.pubN 0] (by rintro ⟨a0,a1⟩;kernel_rfl)
end
