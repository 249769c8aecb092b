/-
  The functions, each by its tree.
-/
import Derived.Test.YtobfadhgiaphnaaGreatXAbC
import Derived.Test.YtobfadhgiaphnaaGreatXAbRo
import Derived.Test.YtobfadhgiaphnaaGreatXFBank
import Derived.Test.YtobfadhgiaphnaaGreatXFCodec
import Derived.Test.YtobfadhgiaphnaaGreatXFCons
import Derived.Test.YtobfadhgiaphnaaGreatXFLine
import Derived.Test.YtobfadhgiaphnaaGreatXFProv
import Derived.Test.YtobfadhgiaphnaaGreatXFRatio
import Derived.Test.YtobfadhgiaphnaaGreatXFStakeA
import Derived.Test.YtobfadhgiaphnaaGreatXFStakeB
import Derived.Test.YtobfadhgiaphnaaGreatXFacts
namespace Go.Proofs.YtobfadhgiaphnaaGreat.Ab
open Go Go.RowKit
open Go.IntKind (i64 u64)
set_option maxRecDepth 100000
set_option linter.unusedVariables false
set_option linter.unusedSimpArgs false
noncomputable section
noncomputable def zboo:EnvT:=⟨Tryz.prog,zw [(48,z4l)]⟩
theorem zbop:(zboo).Ok:=zd ⟨zadc,trivial⟩
def z6d  : Tr (Wld) :=
 (.bind (zuh) fun v1 =>
 (.leaf (⟨0,v1,(default:zev),(default:z82),0⟩:Wld)))
def z2s  := (z6d ).run
def zadp:SpecT:=zn 0 LQ.nil 0 [] (fun s=>z6d ) default (LQ.kp 0 0 (LP.q wldL)) 1 [.cells 102 159]
theorem zakw:ze Tryz.prog 15 (zadp).spec :=
 sK (A:=⟨[],[],[],[[],[0]],[]⟩) zbop fM Tryz.func15 (c:=(fb Tryz.f15)) (by kernel_rfl) (Lc:=0) trivial _ _ 3 _ _ _ _ _ _ [.pubB 0] (by rintro _;kernel_rfl)
def zm8 (a0:Wld): Tr (Int×Wld) :=
 (.leaf (a0.clock,a0))
def ze1 (a0:Wld):=(zm8 a0).run
def zu4:SpecT:=zn 1 (LQ.kp 0 0 (LP.q wldL)) 1 [.cells 102 159] zm8 default (LQ.v intP (LP.q wldL)) 1 [.cells 102 159]
theorem z31:ze Tryz.prog 10 (zu4).spec :=
 sK (A:=⟨[],[],[[1,0,1]],[[0],[0,4],[2],[2]],[]⟩) zhN fM Tryz.func10 (c:=(fb Tryz.f10)) (by kernel_rfl) (Lc:=1) trivial _ _ 3 _ _ _ _ _ _ [.pubN 0] (by rintro a0;kernel_rfl)
def zxq (a0:(List Power)): Tr ((List Power)) :=
 (.guard ((0+Sl.len (.powers a0))*16≤140737488355328)
 (.leaf a0))
def zc6 (a0:(List Power)):=(zxq a0).run
def zqp:SpecT:=zn 0 (Par.q zf) 1 [] zxq default (Par.q zf) 1 []
theorem zu5:ze Tryz.prog 44 (zqp).spec :=
 sK (A:=⟨[],[],[],[[0],[2]],[]⟩) zhN fM Tryz.func44 (c:=(fb Tryz.f44)) (by kernel_rfl) (Lc:=0) trivial _ _ 3 _ _ _ _ _ _ [.pub 2] (by rintro a0;kernel_rfl)
def zu6 (a0:(List Int)): Tr ((List Int)) :=
 (.guard ((0+Sl.len (.ints a0))*8≤140737488355328)
 (.leaf a0))
def zdl (a0:(List Int)):=(zu6 a0).run
def zou:SpecT:=zn 0 (Par.q za7) 1 [] zu6 default (Par.q za7) 1 []
theorem zsc:ze Tryz.prog 45 (zou).spec :=
 sK (A:=⟨[],[],[],[[0],[2]],[]⟩) zhN fM Tryz.func45 (c:=(fb Tryz.f45)) (by kernel_rfl) (Lc:=0) trivial _ _ 3 _ _ _ _ _ _ [.pub 2] (by rintro a0;kernel_rfl)
noncomputable def zboq:EnvT:=⟨Tryz.prog,zw [(44,zqp),(45,zou)]⟩
theorem zbor:(zboq).Ok:=zd ⟨zu5,zsc,trivial⟩
def zxr (a0:Packet): Tr (Packet) :=
 (.guard ((zc6 a0.Set).isSome=true)
 (.guard ((zdl a0.Done).isSome=true)
 (.leaf ({ a0 with Set:=((zc6 a0.Set).getD default),Done:=((zdl a0.Done).getD default) }))))
def zhk (a0:Packet):=(zxr a0).run
def zxs:SpecT:=zn 0 (Par.q (Par.ofLP zdr)) 1 [] zxr default (Par.q (Par.ofLP zdr)) 1 []
theorem z2t:ze Tryz.prog 47 (zxs).spec :=
 sK (A:=⟨[],[],[],[[1,2],[1,2],[2]],[]⟩) zbor fM Tryz.func47 (c:=(fb Tryz.f47)) (by kernel_rfl) (Lc:=0) trivial _ _ 4 _ _ _ _ _ _ [.pubB 2] (by rintro a0;kernel_rfl)
noncomputable def zbos:EnvT:=⟨Tryz.prog,zw [(45,zou)]⟩
theorem zbot:(zbos).Ok:=zd ⟨zsc,trivial⟩
def zu7 (a0:zbs): Tr (zbs) :=
 (.guard ((0+Sl.len (.strs a0.Said))*16≤140737488355328)
 (.guard ((zdl a0.Due).isSome=true)
 (.leaf ({ a0 with Due:=((zdl a0.Due).getD default) }))))
def zch (a0:zbs):=(zu7 a0).run
def zu8:SpecT:=zn 0 (Par.q (Par.ofLP lineL)) 1 [] zu7 default (Par.q (Par.ofLP lineL)) 1 []
theorem z0x:ze Tryz.prog 46 (zu8).spec :=
 sK (A:=⟨[],[],[],[[1,2],[1,2],[2]],[]⟩) zbot fM Tryz.func46 (c:=(fb Tryz.f46)) (by kernel_rfl) (Lc:=0) trivial _ _ 5 _ _ _ _ _ _ [.pubB 2] (by rintro a0;kernel_rfl)
def za68:List (List Nat):=[[0,2],[0,2,10],[2],[2,3],[2,3],[2,3],[2,3,26],[2,3,26,27],[2,3,4,26],[2,3,5,26],[2,3,26],[2,3,26],[2,3,6],[2,3,6,58,59,60],[2,3,6,58,59,60,61],[2,3,6,8,58,59,60],[2,3,6,58,59,60],[2,3,6,58,59,60],[2,3],[2]]
noncomputable def za69:EnvT:=⟨Tryz.prog,zw [(44,zqp),(45,zou),(46,zu8),(47,zxs)]⟩
theorem za7b:(za69).Ok:=zd ⟨zu5,zsc,z0x,z2t,trivial⟩
def zbf (x0:Int) (x1:Wld) (x2 x3:za): Tr ((Int×Wld×za×za)⊕(Wld×za×za)) :=
 (.ite (decide (x0 < 2))
  (.guard ((0:Int)≤x0∧(x0:Int) < 2)
  (.guard ((zc6 (x3.Links.Told.get x0)).isSome=true)
  (.guard ((zdl (x3.Links.Done.get x0)).isSome=true)
  (.guard ((zch (zx x3.Links x0).Out).isSome=true)
  (.leaf (.inl (i64.wrap (x0+1),x1,x2,{ x3 with Links:={ x3.Links with Told:=(x3.Links.Told.set x0 ((zc6 (x3.Links.Told.get x0)).getD default)),Done:=(x3.Links.Done.set x0 ((zdl (x3.Links.Done.get x0)).getD default)),Said:=(x3.Links.Said.set x0 ((zch (zx x3.Links x0).Out).getD default).Said),Due:=(x3.Links.Due.set x0 ((zch (zx x3.Links x0).Out).getD default).Due),Got:=(x3.Links.Got.set x0 ((zch (zx x3.Links x0).Out).getD default).Got),Closed:=(x3.Links.Closed.set x0 ((zch (zx x3.Links x0).Out).getD default).Closed) } })))))))
  (.leaf (.inr (x1,x2,x3))))
def zfw (x0:Int) (x1:Wld) (x2 x3:za):=zbl (fun s:Int×Wld×za×za=>(zbf s.1 s.2.1 s.2.2.1 s.2.2.2).run) (x0,x1,x2,x3)
def zbgb:Ann:=⟨[],[],[],za68,[]⟩
def zbgc:=EndD.mk (LQ.map (LQ.kp 1 0 (LQ.kp 2 0 (LQ.v intP (LQ.seq (LP.q wldL) (LQ.seq (LP.q providerL) (LQ.v intP (LQ.v intP (LQ.seq (LP.q bankL) (LQ.seq (LP.q validatorsL) (LQ.seq (LP.q (a4L (a6L (LP.one intP)))) (LQ.k (LQ.c (.own 3)) (LQ.v intP (LQ.v zf (LQ.seq (LP.q linksL) (LQ.seq (LP.q meterL) (LQ.v zac (Par.q zbx))))))))))))))))) (fun x=>(x.1,x.2.1,x.2.2.1,(⟨x.2.2.2.1,(d4 x).1,(⟨(d4 x).2.1,(d4 x).2.2.1,(d4 x).2.2.2.1,(d12 x).2,(d8 x).1⟩:Stake),(d8 x).2.1,(d8 x).2.2.1,(d8 x).2.2.2.1,(d12 x).1⟩:za))) (fun y=>(y.1,y.2.1,y.2.2.1,y.2.2.2.Height,y.2.2.2.Time,y.2.2.2.Stake.Bank,y.2.2.2.Stake.Validators,y.2.2.2.Stake.Shares,y.2.2.2.Stake.Next,y.2.2.2.Set,y.2.2.2.Links,y.2.2.2.Meter,y.2.2.2.Queue,y.2.2.2.Stake.Waits)) (fun _=>rfl)) ⟨[2,3,26],[.nilcell 3 63 127 (.waits [])]⟩ [.cells 102 159,.cells 63 97,.cells 63 97,.rows 127]
def zaza:=EndD.mk (LQ.map (LQ.kp 1 0 (LQ.kp 2 0 (LQ.seq (LP.q wldL) (LQ.seq (LP.q providerL) (LQ.v intP (LQ.v intP (LQ.seq (LP.q bankL) (LQ.seq (LP.q validatorsL) (LQ.seq (LP.q (a4L (a6L (LP.one intP)))) (LQ.k (LQ.c (.own 3)) (LQ.v intP (LQ.v zf (LQ.seq (LP.q linksL) (LQ.seq (LP.q meterL) (LQ.v zac (Par.q zbx)))))))))))))))) (fun x=>(x.1,x.2.1,(⟨x.2.2.1,x.2.2.2.1,(⟨(d4 x).1,(d4 x).2.1,(d4 x).2.2.1,(d12 x),(d4 x).2.2.2.1⟩:Stake),(d8 x).1,(d8 x).2.1,(d8 x).2.2.1,(d8 x).2.2.2.1⟩:za))) (fun y=>(y.1,y.2.1,y.2.2.Height,y.2.2.Time,y.2.2.Stake.Bank,y.2.2.Stake.Validators,y.2.2.Stake.Shares,y.2.2.Stake.Next,y.2.2.Set,y.2.2.Links,y.2.2.Meter,y.2.2.Queue,y.2.2.Stake.Waits)) (fun _=>rfl)) ⟨[2,3],[.nilcell 3 63 127 (.waits [])]⟩ [.cells 102 159,.cells 63 97,.cells 63 97,.rows 127]
def za3k:St→Option LR:=L1 77 10 1 zbgc (.exit 0) zaza (u4 zbf)
def zs182a:=sub (fb Tryz.f12) [0,1,0,1,1,1,1,1]
theorem zbgd:zk (za69).env 1 zs182a za3k :=
 zb5 (A:=zbgb) za7b fM trivial (k:=z8 zs182a) (by kernel_rfl) rfl (by rintro ⟨x0,x1,x2,x3⟩;kernel_rfl)
def zcb (x0:(List Asked)) (x1 x2:Int) (x3:Wld) (x4 x5:za) (x6:(List Asked)): Tr (((List Asked)×Int×Int×Wld×za×za×(List Asked))⊕(Wld×za×za×(List Asked))) :=
 (.ite (decide (x2 < x1))
  (.guard ((0:Int)≤x2∧x2 < ((Sl.len (.asked x0):Nat):Int))
  (.guard ((zhk (x0.getD x2.toNat default).P).isSome=true)
  (.guard ((Sl.len (.asked x6)+Sl.len (.asked [(⟨(x0.getD x2.toNat default).C,((zhk (x0.getD x2.toNat default).P).getD default)⟩:Asked)]))*88≤140737488355328)
  (.leaf (.inl (x0,x1,i64.wrap (x2+1),x3,x4,x5,x6++[(⟨(x0.getD x2.toNat default).C,((zhk (x0.getD x2.toNat default).P).getD default)⟩:Asked)]))))))
  (.leaf (.inr (x3,x4,x5,x6))))
def zfx (x0:(List Asked)) (x1 x2:Int) (x3:Wld) (x4 x5:za) (x6:(List Asked)):=zbl (fun s:(List Asked)×Int×Int×Wld×za×za×(List Asked)=>(zcb s.1 s.2.1 s.2.2.1 s.2.2.2.1 s.2.2.2.2.1 s.2.2.2.2.2.1 s.2.2.2.2.2.2).run) (x0,x1,x2,x3,x4,x5,x6)
def zbge:Ann:=⟨[],[],[],za68,[]⟩
def zbgf:=EndD.mk (LQ.map (LQ.kp 1 0 (LQ.kp 2 0 (LQ.k (LQ.c (.own 3)) (LQ.v zac (LQ.v intP (LQ.v intP (LQ.seq (LP.q wldL) (LQ.seq (LP.q providerL) (LQ.v intP (LQ.v intP (LQ.seq (LP.q bankL) (LQ.seq (LP.q validatorsL) (LQ.seq (LP.q (a4L (a6L (LP.one intP)))) (LQ.k (LQ.c (.own 4)) (LQ.v intP (LQ.v zf (LQ.seq (LP.q linksL) (LQ.seq (LP.q meterL) (LQ.v zac (LQ.v zac (Par.q zbx))))))))))))))))))))) (fun x=>(x.1,x.2.1,x.2.2.1,x.2.2.2.1,(d4 x).1,(⟨(d4 x).2.1,(d4 x).2.2.1,(⟨(d4 x).2.2.2.1,(d8 x).1,(d8 x).2.1,(d16 x),(d8 x).2.2.1⟩:Stake),(d8 x).2.2.2.1,(d12 x).1,(d12 x).2.1,(d12 x).2.2.1⟩:za),(d12 x).2.2.2.1)) (fun y=>(y.1,y.2.1,y.2.2.1,y.2.2.2.1,(d4 y).1,(d4 y).2.1.Height,(d4 y).2.1.Time,(d4 y).2.1.Stake.Bank,(d4 y).2.1.Stake.Validators,(d4 y).2.1.Stake.Shares,(d4 y).2.1.Stake.Next,(d4 y).2.1.Set,(d4 y).2.1.Links,(d4 y).2.1.Meter,(d4 y).2.1.Queue,(d4 y).2.2,(d4 y).2.1.Stake.Waits)) (fun _=>rfl)) ⟨[2,3,6,58,59,60],[.nilcell 3 63 127 (.waits []),.nilown 6 112 (.asked []),.pub 58,.nilsl 58 (.asked [])]⟩ [.cells 102 159,.cells 63 97,.cells 63 97,.rows 112,.rows 127]
def zazb:=EndD.mk (LQ.map (LQ.kp 1 0 (LQ.kp 2 0 (LQ.k (LQ.c (.own 3)) (LQ.seq (LP.q wldL) (LQ.seq (LP.q providerL) (LQ.v intP (LQ.v intP (LQ.seq (LP.q bankL) (LQ.seq (LP.q validatorsL) (LQ.seq (LP.q (a4L (a6L (LP.one intP)))) (LQ.k (LQ.c (.own 4)) (LQ.v intP (LQ.v zf (LQ.seq (LP.q linksL) (LQ.seq (LP.q meterL) (LQ.v zac (LQ.v zac (Par.q zbx)))))))))))))))))) (fun x=>(x.1,x.2.1,(⟨x.2.2.1,x.2.2.2.1,(⟨(d4 x).1,(d4 x).2.1,(d4 x).2.2.1,(d12 x).2,(d4 x).2.2.2.1⟩:Stake),(d8 x).1,(d8 x).2.1,(d8 x).2.2.1,(d8 x).2.2.2.1⟩:za),(d12 x).1)) (fun y=>(y.1,y.2.1,y.2.2.1.Height,y.2.2.1.Time,y.2.2.1.Stake.Bank,y.2.2.1.Stake.Validators,y.2.2.1.Stake.Shares,y.2.2.1.Stake.Next,y.2.2.1.Set,y.2.2.1.Links,y.2.2.1.Meter,y.2.2.1.Queue,y.2.2.2,y.2.2.1.Stake.Waits)) (fun _=>rfl)) ⟨[2,3,6],[.nilcell 3 63 127 (.waits []),.nilown 6 112 (.asked [])]⟩ [.cells 102 159,.cells 63 97,.cells 63 97,.rows 112,.rows 127]
def za3l:St→Option LR:=L1 77 10 1 zbgf (.exit 2) zazb (u7 zcb)
def zs182b:=sub (fb Tryz.f12) [0,1,0,1,1,1,1,1,1,1]
theorem zbgg:zk (za69).env 1 zs182b za3l :=
 zb5 (A:=zbge) za7b fM trivial (k:=z8 zs182b) (by kernel_rfl) rfl (by rintro ⟨x0,x1,x2,x3,x4,x5,x6⟩;kernel_rfl)
def zjk (a0:Wld): Tr (za×Wld) :=
 (.guard ((0+Sl.len (.waits a0.p.Stake.Waits))*64≤140737488355328)
 (.bind (zc6 a0.p.Set) fun v1 =>
 (.bind (zfw 0 a0 (default:za) ({ a0.p with Set:=v1 })) fun v2 =>
 (.bind (zfx v2.2.2.Queue ((v2.2.2.Queue.length:Nat):Int) 0 v2.1 v2.2.1 v2.2.2 []) fun v3 =>
 (.leaf ({ v3.2.2.1 with Queue:=v3.2.2.2 },v3.1))))))
def za9 (a0:Wld):=(zjk a0).run
def zo6:SpecT:=zn 1 (LQ.kp 0 0 (LP.q wldL)) 1 [.cells 102 159] zjk default (LQ.v (Par.ofLP providerL) (LP.q wldL)) 1 [.cells 102 159]
theorem z0c:ze Tryz.prog 12 (zo6).spec :=
 sK (A:=⟨[([0,1,0,1,1,1,1,1],za3k),([0,1,0,1,1,1,1,1,1,1],za3l)],[],[[1,0,1]],za68,[]⟩) za7b fM Tryz.func12 (c:=(fb Tryz.f12)) (by kernel_rfl) (Lc:=1) ⟨zbgd,zbgg,trivial⟩ _ _ 10 _ _ _ _ _ _ [.pubN 0,.pubB 2] (by rintro a0;kernel_rfl)
def zbgh:List (List Nat):=[[0,1,4],[0,1,4,18],[4],[4,5],[4,5],[4,5,6],[4,5,6,39,40,41],[4,5,6,39,40,41,42],[4,5,6,8,39,40,41],[4,5,6,39,40,41],[4,5,6,39,40,41],[4,5],[4]]
noncomputable def zbgi:EnvT:=⟨Tryz.prog,zw [(44,zqp),(46,zu8),(47,zxs)]⟩
theorem zbgj:(zbgi).Ok:=zd ⟨zu5,z0x,z2t,trivial⟩
def zcc (x0:(List Packet)) (x1 x2:Int) (x3:Wld) (x4 x5:zb) (x6:(List Packet)): Tr (((List Packet)×Int×Int×Wld×zb×zb×(List Packet))⊕(Wld×zb×zb×(List Packet))) :=
 (.ite (decide (x2 < x1))
  (.guard ((0:Int)≤x2∧x2 < ((Sl.len (.packets x0):Nat):Int))
  (.bind (zhk (x0.getD x2.toNat default)) fun v1 =>
  (.guard ((Sl.len (.packets x6)+Sl.len (.packets [v1]))*80≤140737488355328)
  (.leaf (.inl (x0,x1,i64.wrap (x2+1),x3,x4,x5,x6++[v1]))))))
  (.leaf (.inr (x3,x4,x5,x6))))
def zfy (x0:(List Packet)) (x1 x2:Int) (x3:Wld) (x4 x5:zb) (x6:(List Packet)):=zbl (fun s:(List Packet)×Int×Int×Wld×zb×zb×(List Packet)=>(zcc s.1 s.2.1 s.2.2.1 s.2.2.2.1 s.2.2.2.2.1 s.2.2.2.2.2.1 s.2.2.2.2.2.2).run) (x0,x1,x2,x3,x4,x5,x6)
def zbgk:Ann:=⟨[],[],[],zbgh,[]⟩
def zbgl:=EndD.mk (LQ.map (LQ.kp 1 0 (LQ.kp 2 0 (LQ.k (LQ.c (.own 3)) (LQ.v zal (LQ.v intP (LQ.v intP (LQ.seq (LP.q wldL) (LQ.seq (LP.q zm) (LQ.v boolP (LQ.v boolP (LQ.v intP (LQ.v intP (LQ.v intP (LQ.v zf (LQ.v zal (LQ.k (LQ.c (.own 4)) (LQ.seq (LP.q (a6L (LP.one boolP))) (LQ.seq (LP.q lineL) (LQ.seq (LP.q zy8) (LQ.v zal (Par.q znd))))))))))))))))))))) (fun x=>(x.1,x.2.1,x.2.2.1,x.2.2.2.1,(d4 x).1,(⟨(d4 x).2.1,(d4 x).2.2.1,(d4 x).2.2.2.1,(d8 x).1,(d8 x).2.1,(d8 x).2.2.1,(d8 x).2.2.2.1,(d16 x),(d12 x).1,(d12 x).2.1,(d12 x).2.2.1⟩:zb),(d12 x).2.2.2.1)) (fun y=>(y.1,y.2.1,y.2.2.1,y.2.2.2.1,(d4 y).1,(d4 y).2.1.On,(d4 y).2.1.Gone,(d4 y).2.1.Height,(d4 y).2.1.Time,(d4 y).2.1.Id,(d4 y).2.1.Set,(d4 y).2.1.Pending,(d4 y).2.1.Flags,(d4 y).2.1.Out,(d4 y).2.1.Seen,(d4 y).2.2,(d4 y).2.1.Ripes)) (fun _=>rfl)) ⟨[4,5,6,39,40,41],[.nilcell 5 7 119 (.ripes []),.nilown 6 110 (.packets []),.pub 39,.nilsl 39 (.packets [])]⟩ [.cells 102 159,.cells 70 22,.cells 70 22,.rows 110,.rows 119]
def zazc:=EndD.mk (LQ.map (LQ.kp 1 0 (LQ.kp 2 0 (LQ.k (LQ.c (.own 3)) (LQ.seq (LP.q wldL) (LQ.seq (LP.q zm) (LQ.v boolP (LQ.v boolP (LQ.v intP (LQ.v intP (LQ.v intP (LQ.v zf (LQ.v zal (LQ.k (LQ.c (.own 4)) (LQ.seq (LP.q (a6L (LP.one boolP))) (LQ.seq (LP.q lineL) (LQ.seq (LP.q zy8) (LQ.v zal (Par.q znd)))))))))))))))))) (fun x=>(x.1,x.2.1,(⟨x.2.2.1,x.2.2.2.1,(d4 x).1,(d4 x).2.1,(d4 x).2.2.1,(d4 x).2.2.2.1,(d8 x).1,(d12 x).2,(d8 x).2.1,(d8 x).2.2.1,(d8 x).2.2.2.1⟩:zb),(d12 x).1)) (fun y=>(y.1,y.2.1,y.2.2.1.On,y.2.2.1.Gone,y.2.2.1.Height,y.2.2.1.Time,y.2.2.1.Id,y.2.2.1.Set,y.2.2.1.Pending,y.2.2.1.Flags,y.2.2.1.Out,y.2.2.1.Seen,y.2.2.2,y.2.2.1.Ripes)) (fun _=>rfl)) ⟨[4,5,6],[.nilcell 5 7 119 (.ripes []),.nilown 6 110 (.packets [])]⟩ [.cells 102 159,.cells 70 22,.cells 70 22,.rows 110,.rows 119]
def za3m:St→Option LR:=L1 54 10 1 zbgl (.exit 0) zazc (u7 zcc)
def zs183a:=sub (fb Tryz.f14) [0,1,0,1,1,1,1,1]
theorem zbgm:zk (zbgi).env 1 zs183a za3m :=
 zb5 (A:=zbgk) zbgj fM trivial (k:=z8 zs183a) (by kernel_rfl) rfl (by rintro ⟨x0,x1,x2,x3,x4,x5,x6⟩;kernel_rfl)
def zjl (a0:Int) (a1:Wld): Tr (zb×Wld) :=
 (.ite ((false||(decide (a0 < 0)))||(decide (a0≥2)))
  (.leaf ((default:zb),a1))
  (.guard ((0:Int)≤a0∧(a0:Int) < 2)
  (.guard ((zc6 (a1.consumers.Set.get a0)).isSome=true)
  (.guard ((zch (zc a1.consumers a0).Out).isSome=true)
  (.guard ((0+Sl.len (.ripes (a1.consumers.Ripes.get a0)))*16≤140737488355328)
  (.bind (zfy (a1.consumers.Pending.get a0) (((a1.consumers.Pending.get a0).length:Nat):Int) 0 a1 (default:zb) ({ ((zc a1.consumers a0):zb) with Set:=((zc6 (a1.consumers.Set.get a0)).getD default),Out:=((zch (zc a1.consumers a0).Out).getD default) }) []) fun v2 =>
  (.leaf ({ v2.2.2.1 with Pending:=v2.2.2.2 },v2.1))))))))
def z7 (a0:Int) (a1:Wld):=(zjl a0 a1).run
def zo7:SpecT:=zn 1 (LQ.kp 0 0 (LQ.v intP (LP.q wldL))) 2 [.cells 102 159] (u2 zjl) default (LQ.v (Par.ofLP zm) (LP.q wldL)) 1 [.cells 102 159]
theorem z0d:ze Tryz.prog 14 (zo7).spec :=
 sK (A:=⟨[([0,1,0,1,1,1,1,1],za3m)],[],[],zbgh,[]⟩) zbgj fM Tryz.func14 (c:=(fb Tryz.f14)) (by kernel_rfl) (Lc:=1) ⟨zbgm,trivial⟩ _ _ 10 _ _ _ _ _ _ [.pubN 0,.pubB 4] (by rintro ⟨a0,a1⟩;kernel_rfl)
noncomputable def zbou:EnvT:=⟨Tryz.prog,zw [(173,zqm)]⟩
theorem zbov:(zbou).Ok:=zd ⟨zt4,trivial⟩
def z2u (a0:zbs) (a1:Bool): Tr (ByteArray) :=
 (.ite (decide (a0.Got < ((a0.Said.length:Nat):Int)))
  (.guard ((0:Int)≤a0.Got∧a0.Got < ((Sl.len (.strs a0.Said):Nat):Int))
  (.ite (!a1)
   (.leaf (a0.Said.getD a0.Got.toNat .empty))
   (.bind (zb9 (⟨3,1,0,i64.wrap (1+(((a0.Said.getD a0.Got.toNat .empty).size:Nat):Int)),[],[]⟩:Packet)) fun v1 =>
   (.leaf v1.1))))
  (.ite (!a1)
   (.leaf (⟨#[]⟩:ByteArray))
   (.bind (zb9 (⟨3,1,0,i64.wrap (1+(((⟨#[]⟩:ByteArray).size:Nat):Int)),[],[]⟩:Packet)) fun v2 =>
   (.leaf v2.1))))
def ztf (a0:zbs) (a1:Bool):=(z2u a0 a1).run
def zaao:SpecT:=zn 0 (LQ.v (Par.ofLP lineL) (Par.q boolP)) 2 [] (u2 z2u) default (Par.q z67) 1 []
theorem zait:ze Tryz.prog 132 (zaao).spec :=
 sK (A:=⟨[],[],[],[[1,2],[1,2,5],[1,2,5,11],[1,5],[5,19],[4],[5],[4]],[]⟩) zbov fM Tryz.func132 (c:=(fb Tryz.f132)) (by kernel_rfl) (Lc:=0) trivial _ _ 3 _ _ _ _ _ _ [] (by rintro ⟨a0,a1⟩;kernel_rfl)
def zbgn:List (List Nat):=[[0,2],[0,2,3,4,5],[0,2,3,4,5,21],[2],[0,2,3,4],[0,2,3,4,28],[0,2,3,4,28,29],[0,2,3,4,6,28],[0,2,3,4,28],[0,2,3,4,28],[2]]
noncomputable def zbgo:EnvT:=⟨Tryz.prog,zw [(84,z4o)]⟩
theorem zbgp:(zbgo).Ok:=zd ⟨zadf,trivial⟩
def zbo (x0:(List Int)) (x1:Int) (x2:Wld) (x3:Reply) (x4:za): Tr (((List Int)×Int×Wld×Reply×za)⊕((List Int)×Wld×Reply)) :=
 (.ite (decide (x1 < 2))
  (.guard ((0:Int)≤x1∧(x1:Int) < 2)
  (.guard ((0:Int)≤x1∧(x1:Int) < 2)
  (.guard ((0:Int)≤x1∧(x1:Int) < 2)
  (.guard ((0:Int)≤0∧(0:Int) < 2)
  (.leaf (.inl (x0,i64.wrap (x1+1),{ x2 with heads:={ x2.heads with PHeight:=(x2.heads.PHeight.set x1 x4.Height),PTime:=(x2.heads.PTime.set x1 x4.Time),PSaid:=(x2.heads.PSaid.set x1 (((x4.Links.Said.get x1).length:Nat):Int)),PGot:=(x2.heads.PGot.set x1 (x2.consumers.Got.get x1)) } },x3,x4)))))))
  (.leaf (.inr (x0,x2,x3))))
def zgo (x0:(List Int)) (x1:Int) (x2:Wld) (x3:Reply) (x4:za):=zbl (fun s:(List Int)×Int×Wld×Reply×za=>(zbo s.1 s.2.1 s.2.2.1 s.2.2.2.1 s.2.2.2.2).run) (x0,x1,x2,x3,x4)
def zbgq:Ann:=⟨[],[],[],zbgn,[]⟩
def zbgr:=EndD.mk (LQ.kp 0 0 (LQ.kp 1 0 (LQ.kp 2 0 (LQ.v za7 (LQ.v intP (LQ.seq (LP.q wldL) (LQ.seq (LP.q zij) (LP.q providerL)))))))) ⟨[0,2,3,4,28],[.pub 4,.nilsl 4 (.ints [])]⟩ [.cells 102 159,.cells 32 2,.cells 63 97]
def zazd:=EndD.mk (LQ.kp 1 0 (LQ.v za7 (LQ.seq (LP.q wldL) (LP.q zij)))) ⟨[2,4],[.pub 4,.nilsl 4 (.ints [])]⟩ [.cells 102 159,.cells 32 2]
def za3n:St→Option LR:=L1 61 5 1 zbgr (.exit 0) zazd (u5 zbo)
def zs185a:=sub (fb Tryz.f37) [0,1,0,1,1,1,1]
theorem zbgs:zk (zbgo).env 1 zs185a za3n :=
 zb5 (A:=zbgq) zbgp fM trivial (k:=z8 zs185a) (by kernel_rfl) rfl (by rintro ⟨x0,x1,x2,x3,x4⟩;kernel_rfl)
def zkj (a0:Wld): Tr (Reply×Wld) :=
 (.guard ((zd8 a0.p a0.clock).isSome=true)
 (.ite (((zd8 a0.p a0.clock).getD default).2.2 != 0)
  (.leaf ((⟨((zd8 a0.p a0.clock).getD default).2.2,0⟩:Reply),a0))
  (.bind (zgo ((zd8 a0.p a0.clock).getD default).2.1 0 ({ a0 with p:=((zd8 a0.p a0.clock).getD default).1 }) (⟨0,0⟩:Reply) ((zd8 a0.p a0.clock).getD default).1) fun v1 =>
  (.leaf ((⟨0,((v1.1.length:Nat):Int)⟩:Reply),v1.2.1)))))
def zjm (a0:Wld):=(zkj a0).run
def zrb:SpecT:=zn 1 (LQ.kp 0 0 (LP.q wldL)) 1 [.cells 102 159] zkj default (LQ.v (Par.ofLP zij) (LP.q wldL)) 1 [.cells 102 159]
theorem z03:ze Tryz.prog 37 (zrb).spec :=
 sK (A:=⟨[([0,1,0,1,1,1,1],za3n)],[],[],zbgn,[]⟩) zbgp fM Tryz.func37 (c:=(fb Tryz.f37)) (by kernel_rfl) (Lc:=1) ⟨zbgs,trivial⟩ _ _ 5 _ _ _ _ _ _ [.pubN 0] (by rintro a0;kernel_rfl)
noncomputable def zbow:EnvT:=⟨Tryz.prog,zw [(132,zaao),(133,z4f),(134,z2g),(135,z2e)]⟩
theorem zbox:(zbow).Ok:=zd ⟨zait,zac0,zaa4,zaa2,trivial⟩
def zkk (a0:Deed) (a1:Wld): Tr (Reply×Wld) :=
 (.guard ((0:Int)≤a0.C∧(a0.C:Int) < 2)
 (.guard ((0:Int)≤a0.C∧(a0.C:Int) < 2)
 (.ite (a0.Back)
  (.bind (ztf (zc a1.consumers a0.C).Out a0.Forged) fun v1 =>
  (.guard ((zp (zc a1.consumers a0.C).Out (i64.wrap ((a1.consumers.Got.get a0.C)+1)) v1 (a1.p.Links.SSaid.get a0.C) a1.clock).isSome=true)
  (.ite (((zp (zc a1.consumers a0.C).Out (i64.wrap ((a1.consumers.Got.get a0.C)+1)) v1 (a1.p.Links.SSaid.get a0.C) a1.clock).getD default).2 != 0)
   (.leaf ((⟨((zp (zc a1.consumers a0.C).Out (i64.wrap ((a1.consumers.Got.get a0.C)+1)) v1 (a1.p.Links.SSaid.get a0.C) a1.clock).getD default).2,0⟩:Reply),a1))
   (.ite (a0.Back)
    (.guard ((zbt a1.p a0.C v1).isSome=true)
    (.ite (((zbt a1.p a0.C v1).getD default).2 != 0)
     (.leaf ((⟨((zbt a1.p a0.C v1).getD default).2,0⟩:Reply),a1))
     (.leaf ((⟨0,((zp (zc a1.consumers a0.C).Out (i64.wrap ((a1.consumers.Got.get a0.C)+1)) v1 (a1.p.Links.SSaid.get a0.C) a1.clock).getD default).1.Got⟩:Reply),{ a1 with p:=((zbt a1.p a0.C v1).getD default).1,consumers:={ a1.consumers with Said:=(a1.consumers.Said.set a0.C ((zp (zc a1.consumers a0.C).Out (i64.wrap ((a1.consumers.Got.get a0.C)+1)) v1 (a1.p.Links.SSaid.get a0.C) a1.clock).getD default).1.Said),Due:=(a1.consumers.Due.set a0.C ((zp (zc a1.consumers a0.C).Out (i64.wrap ((a1.consumers.Got.get a0.C)+1)) v1 (a1.p.Links.SSaid.get a0.C) a1.clock).getD default).1.Due),Got:=(a1.consumers.Got.set a0.C ((zp (zc a1.consumers a0.C).Out (i64.wrap ((a1.consumers.Got.get a0.C)+1)) v1 (a1.p.Links.SSaid.get a0.C) a1.clock).getD default).1.Got),Closed:=(a1.consumers.Closed.set a0.C ((zp (zc a1.consumers a0.C).Out (i64.wrap ((a1.consumers.Got.get a0.C)+1)) v1 (a1.p.Links.SSaid.get a0.C) a1.clock).getD default).1.Closed) } }))))
    (.bind (zml (zc a1.consumers a0.C) v1) fun v2 =>
    (.ite (v2.2 != 0)
     (.leaf ((⟨v2.2,0⟩:Reply),a1))
     (.leaf ((⟨0,((zp (zc a1.consumers a0.C).Out (i64.wrap ((a1.consumers.Got.get a0.C)+1)) v1 (a1.p.Links.SSaid.get a0.C) a1.clock).getD default).1.Got⟩:Reply),{ a1 with p:={ a1.p with Links:={ a1.p.Links with Said:=(a1.p.Links.Said.set a0.C ((zp (zc a1.consumers a0.C).Out (i64.wrap ((a1.consumers.Got.get a0.C)+1)) v1 (a1.p.Links.SSaid.get a0.C) a1.clock).getD default).1.Said),Due:=(a1.p.Links.Due.set a0.C ((zp (zc a1.consumers a0.C).Out (i64.wrap ((a1.consumers.Got.get a0.C)+1)) v1 (a1.p.Links.SSaid.get a0.C) a1.clock).getD default).1.Due),Got:=(a1.p.Links.Got.set a0.C ((zp (zc a1.consumers a0.C).Out (i64.wrap ((a1.consumers.Got.get a0.C)+1)) v1 (a1.p.Links.SSaid.get a0.C) a1.clock).getD default).1.Got),Closed:=(a1.p.Links.Closed.set a0.C ((zp (zc a1.consumers a0.C).Out (i64.wrap ((a1.consumers.Got.get a0.C)+1)) v1 (a1.p.Links.SSaid.get a0.C) a1.clock).getD default).1.Closed) } },consumers:=(zqh a1.consumers a0.C v2.1) }))))))))
  (.bind (ztf (zx a1.p.Links a0.C).Out a0.Forged) fun v3 =>
  (.guard ((zp (zx a1.p.Links a0.C).Out (i64.wrap ((a1.p.Links.Got.get a0.C)+1)) v3 (a1.consumers.SSaid.get a0.C) a1.clock).isSome=true)
  (.ite (((zp (zx a1.p.Links a0.C).Out (i64.wrap ((a1.p.Links.Got.get a0.C)+1)) v3 (a1.consumers.SSaid.get a0.C) a1.clock).getD default).2 != 0)
   (.leaf ((⟨((zp (zx a1.p.Links a0.C).Out (i64.wrap ((a1.p.Links.Got.get a0.C)+1)) v3 (a1.consumers.SSaid.get a0.C) a1.clock).getD default).2,0⟩:Reply),a1))
   (.ite (a0.Back)
    (.guard ((zbt a1.p a0.C v3).isSome=true)
    (.ite (((zbt a1.p a0.C v3).getD default).2 != 0)
     (.leaf ((⟨((zbt a1.p a0.C v3).getD default).2,0⟩:Reply),a1))
     (.leaf ((⟨0,((zp (zx a1.p.Links a0.C).Out (i64.wrap ((a1.p.Links.Got.get a0.C)+1)) v3 (a1.consumers.SSaid.get a0.C) a1.clock).getD default).1.Got⟩:Reply),{ a1 with p:=((zbt a1.p a0.C v3).getD default).1,consumers:={ a1.consumers with Said:=(a1.consumers.Said.set a0.C ((zp (zx a1.p.Links a0.C).Out (i64.wrap ((a1.p.Links.Got.get a0.C)+1)) v3 (a1.consumers.SSaid.get a0.C) a1.clock).getD default).1.Said),Due:=(a1.consumers.Due.set a0.C ((zp (zx a1.p.Links a0.C).Out (i64.wrap ((a1.p.Links.Got.get a0.C)+1)) v3 (a1.consumers.SSaid.get a0.C) a1.clock).getD default).1.Due),Got:=(a1.consumers.Got.set a0.C ((zp (zx a1.p.Links a0.C).Out (i64.wrap ((a1.p.Links.Got.get a0.C)+1)) v3 (a1.consumers.SSaid.get a0.C) a1.clock).getD default).1.Got),Closed:=(a1.consumers.Closed.set a0.C ((zp (zx a1.p.Links a0.C).Out (i64.wrap ((a1.p.Links.Got.get a0.C)+1)) v3 (a1.consumers.SSaid.get a0.C) a1.clock).getD default).1.Closed) } }))))
    (.bind (zml (zc a1.consumers a0.C) v3) fun v4 =>
    (.ite (v4.2 != 0)
     (.leaf ((⟨v4.2,0⟩:Reply),a1))
     (.leaf ((⟨0,((zp (zx a1.p.Links a0.C).Out (i64.wrap ((a1.p.Links.Got.get a0.C)+1)) v3 (a1.consumers.SSaid.get a0.C) a1.clock).getD default).1.Got⟩:Reply),{ a1 with p:={ a1.p with Links:={ a1.p.Links with Said:=(a1.p.Links.Said.set a0.C ((zp (zx a1.p.Links a0.C).Out (i64.wrap ((a1.p.Links.Got.get a0.C)+1)) v3 (a1.consumers.SSaid.get a0.C) a1.clock).getD default).1.Said),Due:=(a1.p.Links.Due.set a0.C ((zp (zx a1.p.Links a0.C).Out (i64.wrap ((a1.p.Links.Got.get a0.C)+1)) v3 (a1.consumers.SSaid.get a0.C) a1.clock).getD default).1.Due),Got:=(a1.p.Links.Got.set a0.C ((zp (zx a1.p.Links a0.C).Out (i64.wrap ((a1.p.Links.Got.get a0.C)+1)) v3 (a1.consumers.SSaid.get a0.C) a1.clock).getD default).1.Got),Closed:=(a1.p.Links.Closed.set a0.C ((zp (zx a1.p.Links a0.C).Out (i64.wrap ((a1.p.Links.Got.get a0.C)+1)) v3 (a1.consumers.SSaid.get a0.C) a1.clock).getD default).1.Closed) } },consumers:=(zqh a1.consumers a0.C v4.1) })))))))))))
def zjn (a0:Deed) (a1:Wld):=(zkk a0 a1).run
def zrc:SpecT:=zn 1 (LQ.kp 0 0 (LQ.v (Par.ofLP deedL) (LP.q wldL))) 2 [.cells 102 159] (u2 zkk) default (LQ.v (Par.ofLP zij) (LP.q wldL)) 1 [.cells 102 159]
theorem z04:ze Tryz.prog 88 (zrc).spec :=
 sK (A:=⟨[],[],[],[[0,3,4],[0,3,4,5,6],[0,3,4,5,6,7,8],[0,3,4,5,6,7,8,37],[0,3,4,5,6,7,8],[0,3,4,5,6,7,8,9],[0,3,4,5,6,7,9,10],[0,3,4,5,6,7,9,10,66],[4],[0,3,4,5,6,7,9,70],[0,4,5,7,11,12],[0,4,5,7,11,12,83],[4],[4,7],[4],[4,5,6,7,10,13],[4,5,6,7,10,13,106],[4],[4,7],[4]],[]⟩) zbox fM Tryz.func88 (c:=(fb Tryz.f88)) (by kernel_rfl) (Lc:=1) trivial _ _ 7 _ _ _ _ _ _ [.pubN 0] (by rintro ⟨a0,a1⟩;kernel_rfl)
noncomputable def zboy:EnvT:=⟨Tryz.prog,zw [(136,z7s),(137,zye),(138,zyc)]⟩
theorem zboz:(zboy).Ok:=zd ⟨zafi,z72,z70,trivial⟩
def zlq (a0:Deed) (a1:Wld): Tr (Reply×Wld) :=
 (.guard ((0:Int)≤a0.C∧(a0.C:Int) < 2)
 (.guard ((0:Int)≤a0.C∧(a0.C:Int) < 2)
 (.ite (a0.Back)
  (.bind (zqk (zc a1.consumers a0.C).Out a0.N (a1.consumers.STime.get a0.C) (a1.consumers.SGot.get a0.C)) fun v1 =>
  (.ite (v1.2 != 0)
   (.leaf ((⟨v1.2,0⟩:Reply),a1))
   (.guard ((zel a1.p a0.C).isSome=true)
   (.bind (zjw (zc a1.consumers a0.C)) fun v2 =>
   (.leaf ((⟨0,0⟩:Reply),{ a1 with p:=((zel a1.p a0.C).getD default),consumers:=(zqh a1.consumers a0.C v2) }))))))
  (.bind (zqk (zx a1.p.Links a0.C).Out a0.N (a1.p.Links.STime.get a0.C) (a1.p.Links.SGot.get a0.C)) fun v3 =>
  (.ite (v3.2 != 0)
   (.leaf ((⟨v3.2,0⟩:Reply),a1))
   (.guard ((zel a1.p a0.C).isSome=true)
   (.bind (zjw (zc a1.consumers a0.C)) fun v4 =>
   (.leaf ((⟨0,0⟩:Reply),{ a1 with p:=((zel a1.p a0.C).getD default),consumers:=(zqh a1.consumers a0.C v4) })))))))))
def zkl (a0:Deed) (a1:Wld):=(zlq a0 a1).run
def zsr:SpecT:=zn 1 (LQ.kp 0 0 (LQ.v (Par.ofLP deedL) (LP.q wldL))) 2 [.cells 102 159] (u2 zlq) default (LQ.v (Par.ofLP zij) (LP.q wldL)) 1 [.cells 102 159]
theorem z2v:ze Tryz.prog 89 (zsr).spec :=
 sK (A:=⟨[],[],[],[[0,3,4],[0,3,4,5,6],[0,3,4,5,7,8],[0,3,4,5,7,8,33],[0,3,4,5,7,8],[0,3,4,5,10],[0,3,4,5,10,54],[4],[4,5],[4],[4]],[]⟩) zboz fM Tryz.func89 (c:=(fb Tryz.f89)) (by kernel_rfl) (Lc:=1) trivial _ _ 8 _ _ _ _ _ _ [.pubN 0] (by rintro ⟨a0,a1⟩;kernel_rfl)
noncomputable def zbo0:EnvT:=⟨Tryz.prog,zw [(85,z0v),(86,z0u),(87,z4k),(88,zrc),(89,zsr),(90,z2f),(91,zyb)]⟩
theorem zbo1:(zbo0).Ok:=zd ⟨z9g,z9f,zadb,z04,z2v,zaa3,z7z,trivial⟩
def zkm (a0:Deed) (a1:Wld): Tr (Reply×Wld) :=
 (.ite ((decide (a0.Kind < 4))||(decide (a0.Kind > 12)))
  (.leaf ((⟨3,0⟩:Reply),a1))
  (.ite ((decide (a0.C < 0))||(decide (a0.C≥2)))
   (.leaf ((⟨4,0⟩:Reply),a1))
   (.guard ((0:Int)≤a0.C∧(a0.C:Int) < 2)
   (.ite ((a0.Kind != 4)&&(!(a1.consumers.On.get a0.C)))
    (.leaf ((⟨4,0⟩:Reply),a1))
    (.ite (a0.Kind==4)
     (.guard ((za3 a1.p a0.C).isSome=true)
     (.ite (((za3 a1.p a0.C).getD default).2 != 0)
      (.leaf ((⟨((za3 a1.p a0.C).getD default).2,0⟩:Reply),a1))
      (.guard ((zk7 ((za3 a1.p a0.C).getD default).1.Set ((za3 a1.p a0.C).getD default).1.Height a1.clock).isSome=true)
      (.guard ((0:Int)≤a0.C∧(a0.C:Int) < 2)
      (.leaf ((⟨0,((za3 a1.p a0.C).getD default).1.Height⟩:Reply),(⟨a1.clock,((za3 a1.p a0.C).getD default).1,(zqh a1.consumers a0.C ((zk7 ((za3 a1.p a0.C).getD default).1.Set ((za3 a1.p a0.C).getD default).1.Height a1.clock).getD default)),(⟨(a1.heads.PHeight.set a0.C 0),(a1.heads.PTime.set a0.C 0),(a1.heads.PSaid.set a0.C 0),(a1.heads.PGot.set a0.C 0),(a1.heads.CHeight.set a0.C 0),(a1.heads.CTime.set a0.C 0),(a1.heads.CSaid.set a0.C 0),(a1.heads.CGot.set a0.C 0)⟩:z82),a1.deeds⟩:Wld)))))))
     (.ite (a0.Kind==7)
      (.guard ((z9 (zc a1.consumers a0.C) a1.clock).isSome=true)
      (.ite (((z9 (zc a1.consumers a0.C) a1.clock).getD default).2==0)
       (.guard ((0:Int)≤a0.C∧(a0.C:Int) < 2)
       (.guard ((0:Int)≤a0.C∧(a0.C:Int) < 2)
       (.guard ((0:Int)≤1∧(1:Int) < 2)
       (.ite (((z9 (zc a1.consumers a0.C) a1.clock).getD default).2 != 0)
        (.leaf ((⟨((z9 (zc a1.consumers a0.C) a1.clock).getD default).2,0⟩:Reply),{ a1 with heads:={ a1.heads with CHeight:=(a1.heads.CHeight.set a0.C ((z9 (zc a1.consumers a0.C) a1.clock).getD default).1.Height),CTime:=(a1.heads.CTime.set a0.C ((z9 (zc a1.consumers a0.C) a1.clock).getD default).1.Time),CSaid:=(a1.heads.CSaid.set a0.C ((((z9 (zc a1.consumers a0.C) a1.clock).getD default).1.Out.Said.length:Nat):Int)),CGot:=(a1.heads.CGot.set a0.C (a1.p.Links.Got.get a0.C)) } }))
        (.leaf ((⟨0,0⟩:Reply),{ a1 with consumers:=(zqh a1.consumers a0.C ((z9 (zc a1.consumers a0.C) a1.clock).getD default).1),heads:={ a1.heads with CHeight:=(a1.heads.CHeight.set a0.C ((z9 (zc a1.consumers a0.C) a1.clock).getD default).1.Height),CTime:=(a1.heads.CTime.set a0.C ((z9 (zc a1.consumers a0.C) a1.clock).getD default).1.Time),CSaid:=(a1.heads.CSaid.set a0.C ((((z9 (zc a1.consumers a0.C) a1.clock).getD default).1.Out.Said.length:Nat):Int)),CGot:=(a1.heads.CGot.set a0.C (a1.p.Links.Got.get a0.C)) } }))))))
       (.ite (((z9 (zc a1.consumers a0.C) a1.clock).getD default).2 != 0)
        (.leaf ((⟨((z9 (zc a1.consumers a0.C) a1.clock).getD default).2,0⟩:Reply),a1))
        (.leaf ((⟨0,0⟩:Reply),{ a1 with consumers:=(zqh a1.consumers a0.C ((z9 (zc a1.consumers a0.C) a1.clock).getD default).1) })))))
      (.ite (a0.Kind==8)
       (.ite (a0.Back)
        (.guard ((0:Int)≤a0.C∧(a0.C:Int) < 2)
        (.guard ((0:Int)≤1∧(1:Int) < 2)
        (.guard ((0:Int)≤a0.C∧(a0.C:Int) < 2)
        (.ite (false)
         (.leaf ((⟨0,0⟩:Reply),{ a1 with p:={ a1.p with Links:={ a1.p.Links with SHeight:=(a1.p.Links.SHeight.set a0.C (a1.heads.CHeight.get a0.C)),STime:=(a1.p.Links.STime.set a0.C (a1.heads.CTime.get a0.C)),SSaid:=(a1.p.Links.SSaid.set a0.C (a1.heads.CSaid.get a0.C)),SGot:=(a1.p.Links.SGot.set a0.C (a1.heads.CGot.get a0.C)) } } }))
         (.leaf ((⟨0,0⟩:Reply),{ a1 with p:={ a1.p with Links:={ a1.p.Links with SHeight:=(a1.p.Links.SHeight.set a0.C (a1.heads.CHeight.get a0.C)),STime:=(a1.p.Links.STime.set a0.C (a1.heads.CTime.get a0.C)),SSaid:=(a1.p.Links.SSaid.set a0.C (a1.heads.CSaid.get a0.C)),SGot:=(a1.p.Links.SGot.set a0.C (a1.heads.CGot.get a0.C)) } },consumers:=(zqh a1.consumers a0.C (zc a1.consumers a0.C)) }))))))
        (.guard ((0:Int)≤a0.C∧(a0.C:Int) < 2)
        (.guard ((0:Int)≤0∧(0:Int) < 2)
        (.ite (false)
         (.leaf ((⟨0,0⟩:Reply),a1))
         (.leaf ((⟨0,0⟩:Reply),{ a1 with consumers:=(zqh a1.consumers a0.C ({ ((zc a1.consumers a0.C):zb) with Seen:=(⟨a1.heads.PHeight.get a0.C,a1.heads.PTime.get a0.C,a1.heads.PSaid.get a0.C,a1.heads.PGot.get a0.C⟩:Head) })) }))))))
       (.ite (a0.Kind==9)
        (.bind (zjn a0 a1) fun v1 =>
        (.leaf (v1.1,v1.2)))
        (.ite (a0.Kind==10)
         (.bind (zkl a0 a1) fun v2 =>
         (.leaf (v2.1,v2.2)))
         (.ite (a0.Kind==11)
          (.guard ((zf0 (zc a1.consumers a0.C) a0.V a1.clock).isSome=true)
          (.ite (((zf0 (zc a1.consumers a0.C) a0.V a1.clock).getD default).2 != 0)
           (.leaf ((⟨((zf0 (zc a1.consumers a0.C) a0.V a1.clock).getD default).2,0⟩:Reply),a1))
           (.leaf ((⟨0,0⟩:Reply),{ a1 with consumers:=(zqh a1.consumers a0.C ((zf0 (zc a1.consumers a0.C) a0.V a1.clock).getD default).1) }))))
          (.ite (a0.Kind==12)
           (.guard ((zej (zc a1.consumers a0.C) a0.V a0.N a1.clock).isSome=true)
           (.ite (((zej (zc a1.consumers a0.C) a0.V a0.N a1.clock).getD default).2 != 0)
            (.leaf ((⟨((zej (zc a1.consumers a0.C) a0.V a0.N a1.clock).getD default).2,0⟩:Reply),a1))
            (.leaf ((⟨0,0⟩:Reply),{ a1 with consumers:=(zqh a1.consumers a0.C ((zej (zc a1.consumers a0.C) a0.V a0.N a1.clock).getD default).1) }))))
           (.ite (false)
            (.leaf ((⟨0,0⟩:Reply),a1))
            (.leaf ((⟨0,0⟩:Reply),{ a1 with consumers:=(zqh a1.consumers a0.C (zc a1.consumers a0.C)) }))))))))))))))
def zjo (a0:Deed) (a1:Wld):=(zkm a0 a1).run
def zrd:SpecT:=zn 1 (LQ.kp 0 0 (LQ.v (Par.ofLP deedL) (LP.q wldL))) 2 [.cells 102 159] (u2 zkm) default (LQ.v (Par.ofLP zij) (LP.q wldL)) 1 [.cells 102 159]
theorem z05:ze Tryz.prog 38 (zrd).spec :=
 sK (A:=⟨[],[],[],[[0,3,4],[0,3,4,17],[4],[0,3,4,26],[4],[0,3,4,5],[0,3,4,5,43],[4],[0,3,4,5,6],[0,3,4,5,6,7],[0,3,4,5,6,7,49],[0,3,4,5,6,7,49,50],[0,3,4,5,8,9],[0,3,4,5,8,9,63],[4],[0,3,4,8],[4,8],[4],[0,3,4,5,6,7,49,91],[0,3,4,5,6,7],[0,3,4,5,6,7,103],[4,5,6,7],[0,3,4,5,6,7,49,130],[0,3,4,5,6,7,133],[4,5,6,7],[4,5,6,7],[0,3,4,5,6,7,49,159],[4],[0,3,4,5,6,7,49,164],[4],[0,3,4,5,6,7,49,169],[4,5,6,7],[0,3,4,5,6,7,182],[4,5,6,7],[4,5,6,7,198],[4],[4],[4]],[]⟩) zbo1 fM Tryz.func38 (c:=(fb Tryz.f38)) (by kernel_rfl) (Lc:=1) trivial _ _ 7 _ _ _ _ _ _ [.pubN 0] (by rintro ⟨a0,a1⟩;kernel_rfl)
noncomputable def zbo2:EnvT:=⟨Tryz.prog,zw [(33,zuk),(34,zq2),(35,z4j),(36,zum),(37,zrb),(38,zrd)]⟩
theorem zbo3:(zbo2).Ok:=zd ⟨z3y,z02,zac8,z3z,z03,z05,trivial⟩
def zsd (a0:Deed) (a1:Wld): Tr (Reply×Wld) :=
 (.ite (decide (a1.deeds≥600))
  (.leaf ((⟨6,0⟩:Reply),a1))
  (.ite (a0.Kind==1)
   (.bind (zlj a1.p a0.D a0.V a0.N) fun v1 =>
   (.ite (v1.2 != 0)
    (.leaf ((⟨v1.2,0⟩:Reply),{ a1 with deeds:=i64.wrap (a1.deeds+1) }))
    (.leaf ((⟨0,0⟩:Reply),{ a1 with p:=v1.1,deeds:=i64.wrap (a1.deeds+1) }))))
   (.ite (a0.Kind==2)
    (.guard ((zb6 a1.p a0.D a0.V a0.N a1.clock).isSome=true)
    (.ite (((zb6 a1.p a0.D a0.V a0.N a1.clock).getD default).2 != 0)
     (.leaf ((⟨((zb6 a1.p a0.D a0.V a0.N a1.clock).getD default).2,0⟩:Reply),{ a1 with deeds:=i64.wrap (a1.deeds+1) }))
     (.leaf ((⟨0,0⟩:Reply),{ a1 with p:=((zb6 a1.p a0.D a0.V a0.N a1.clock).getD default).1,deeds:=i64.wrap (a1.deeds+1) }))))
    (.ite (a0.Kind==3)
     (.bind (zt9 a1.p.Stake a0.V) fun v2 =>
     (.ite (v2.2 != 0)
      (.leaf ((⟨v2.2,0⟩:Reply),{ a1 with deeds:=i64.wrap (a1.deeds+1) }))
      (.leaf ((⟨0,0⟩:Reply),{ a1 with p:={ a1.p with Stake:=v2.1 },deeds:=i64.wrap (a1.deeds+1) }))))
     (.ite (a0.Kind==13)
      (.bind (zll a1.p a0.V a0.N) fun v3 =>
      (.ite (v3.2 != 0)
       (.leaf ((⟨v3.2,0⟩:Reply),{ a1 with deeds:=i64.wrap (a1.deeds+1) }))
       (.leaf ((⟨0,0⟩:Reply),{ a1 with p:=v3.1,deeds:=i64.wrap (a1.deeds+1) }))))
      (.ite (a0.Kind==5)
       (.ite ((decide (a0.N < 1))||(decide (a0.N > (i64.wrap (1099511627736 - a1.clock)))))
        (.leaf ((⟨2,0⟩:Reply),{ a1 with deeds:=i64.wrap (a1.deeds+1) }))
        (.leaf ((⟨0,i64.wrap (a1.clock+a0.N)⟩:Reply),{ a1 with clock:=i64.wrap (a1.clock+a0.N),deeds:=i64.wrap (a1.deeds+1) })))
       (.ite (a0.Kind==6)
        (.bind (zjm ({ a1 with deeds:=i64.wrap (a1.deeds+1) })) fun v4 =>
        (.leaf (v4.1,v4.2)))
        (.bind (zjo a0 ({ a1 with deeds:=i64.wrap (a1.deeds+1) })) fun v5 =>
        (.leaf (v5.1,v5.2))))))))))
def zar (a0:Deed) (a1:Wld):=(zsd a0 a1).run
def z0y:SpecT:=zn 1 (LQ.kp 0 0 (LQ.v (Par.ofLP deedL) (LP.q wldL))) 2 [.cells 102 159] (u2 zsd) default (LQ.v (Par.ofLP zij) (LP.q wldL)) 1 [.cells 102 159]
theorem z9m:ze Tryz.prog 9 (z0y).spec :=
 sK (A:=⟨[],[],[[1,0,0,1]],[[0,3,4],[0,3,4,7],[4],[0,3,4,11],[4],[0,3,4],[0,3,4],[0,3,4,6],[0,3,4,6,30],[4],[0,3,4,6,30,34],[0,4,5,6],[0,3,4,6,30,47],[0,4,5,6],[0,3,4,6,30,64],[0,4,5,6],[0,3,4,6,30,75],[0,4,5,6],[0,3,4,30,86],[0,3,4,100],[4],[0,4],[4],[0,3,4,116],[4],[0,4,5,6,121],[4],[4],[4]],[]⟩) zbo3 fM Tryz.func9 (c:=(fb Tryz.f9)) (by kernel_rfl) (Lc:=1) trivial _ _ 6 _ _ _ _ _ _ [.pubN 0] (by rintro ⟨a0,a1⟩;kernel_rfl)
noncomputable def zo8:SpecT:=roT zu4
theorem z0e:ze Tryz.prog 10 (zo8).spec:=za8g z31
end
