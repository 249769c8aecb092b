/-
  The functions, each by its tree.
-/
import Derived.Test.YtiacgjebngnddaaGreatXAbC
import Derived.Test.YtiacgjebngnddaaGreatXFBank
import Derived.Test.YtiacgjebngnddaaGreatXFCodec
import Derived.Test.YtiacgjebngnddaaGreatXFCons
import Derived.Test.YtiacgjebngnddaaGreatXFLine
import Derived.Test.YtiacgjebngnddaaGreatXFProv
import Derived.Test.YtiacgjebngnddaaGreatXFRatio
import Derived.Test.YtiacgjebngnddaaGreatXFStakeA
import Derived.Test.YtiacgjebngnddaaGreatXFStakeB
import Derived.Test.YtiacgjebngnddaaGreatXFacts
namespace Go.Proofs.YtiacgjebngnddaaGreat.Ab
open Go Go.RowKit
open Go.IntKind (i64 u64)
set_option maxRecDepth 100000
set_option linter.unusedVariables false
set_option linter.unusedSimpArgs false
noncomputable section
noncomputable def zazn:EnvT:=⟨Tryz.prog,zad [(36,zun)]⟩
theorem zazo:(zazn).Ok:=ze ⟨z08,trivial⟩
def zvs  : Tr (Wld) :=
 (.bind (zni) fun v1 =>
 (.leaf (⟨0,v1,(default:zcy),(default:zt0),0⟩:Wld)))
def zoo  := (zvs ).run
def zvt:SpecT:=zt 0 LQ.nil 0 [] (fun s=>zvs ) default (LQ.kp 0 0 (LP.q zn6)) 1 [.cells 99 159]
theorem zyx:zf Tryz.prog 19 (zvt).spec :=
 sK (A:=⟨[],[],[],[[],[0]],[]⟩) zazo fM Tryz.func19 (c:=(fb Tryz.f19)) (by kernel_rfl) (Lc:=0) trivial _ _ 3 _ _ _ _ _ _ [.pubB 0] (by rintro _;kernel_rfl)
def zia (a0:Wld): Tr (Int×Wld) :=
 (.leaf (a0.clock,a0))
def zg5 (a0:Wld):=(zia a0).run
def zns:SpecT:=zt 1 (LQ.kp 0 0 (LP.q zn6)) 1 [.cells 99 159] zia default (LQ.v intP (LP.q zn6)) 1 [.cells 99 159]
theorem zt6:zf Tryz.prog 38 (zns).spec :=
 sK (A:=⟨[],[],[[1,0,1]],[[0],[0,4],[2],[2]],[]⟩) zhN fM Tryz.func38 (c:=(fb Tryz.f38)) (by kernel_rfl) (Lc:=1) trivial _ _ 3 _ _ _ _ _ _ [.pubN 0] (by rintro a0;kernel_rfl)
def zpf (a0:(List Power)): Tr ((List Power)) :=
 (.guard ((0+Sl.len (.powers a0))*16≤140737488355328)
 (.leaf a0))
def zbo (a0:(List Power)):=(zpf a0).run
def zkq:SpecT:=zt 0 (Par.q zm) 1 [] zpf default (Par.q zm) 1 []
theorem znt:zf Tryz.prog 24 (zkq).spec :=
 sK (A:=⟨[],[],[],[[0],[2]],[]⟩) zhN fM Tryz.func24 (c:=(fb Tryz.f24)) (by kernel_rfl) (Lc:=0) trivial _ _ 3 _ _ _ _ _ _ [.pub 2] (by rintro a0;kernel_rfl)
def znu (a0:(List Int)): Tr ((List Int)) :=
 (.guard ((0+Sl.len (.ints a0))*8≤140737488355328)
 (.leaf a0))
def zbw (a0:(List Int)):=(znu a0).run
def zjd:SpecT:=zt 0 (Par.q zf5) 1 [] znu default (Par.q zf5) 1 []
theorem zlt:zf Tryz.prog 25 (zjd).spec :=
 sK (A:=⟨[],[],[],[[0],[2]],[]⟩) zhN fM Tryz.func25 (c:=(fb Tryz.f25)) (by kernel_rfl) (Lc:=0) trivial _ _ 3 _ _ _ _ _ _ [.pub 2] (by rintro a0;kernel_rfl)
noncomputable def zazp:EnvT:=⟨Tryz.prog,zad [(24,zkq),(25,zjd)]⟩
theorem zazq:(zazp).Ok:=ze ⟨znt,zlt,trivial⟩
def zpg (a0:Packet): Tr (Packet) :=
 (.guard ((zbo a0.Set).isSome=true)
 (.guard ((zbw a0.Done).isSome=true)
 (.leaf ({ a0 with Set:=((zbo a0.Set).getD default),Done:=((zbw a0.Done).getD default) }))))
def zev (a0:Packet):=(zpg a0).run
def zph:SpecT:=zt 0 (Par.q (Par.ofLP zjq)) 1 [] zpg default (Par.q (Par.ofLP zjq)) 1 []
theorem zs3:zf Tryz.prog 27 (zph).spec :=
 sK (A:=⟨[],[],[],[[1,2],[1,2],[2]],[]⟩) zazq fM Tryz.func27 (c:=(fb Tryz.f27)) (by kernel_rfl) (Lc:=0) trivial _ _ 4 _ _ _ _ _ _ [.pubB 2] (by rintro a0;kernel_rfl)
noncomputable def zazr:EnvT:=⟨Tryz.prog,zad [(25,zjd)]⟩
theorem zazs:(zazr).Ok:=ze ⟨zlt,trivial⟩
def znv (a0:zgz): Tr (zgz) :=
 (.guard ((0+Sl.len (.strs a0.Said))*16≤140737488355328)
 (.guard ((zbw a0.Due).isSome=true)
 (.leaf ({ a0 with Due:=((zbw a0.Due).getD default) }))))
def zbc (a0:zgz):=(znv a0).run
def znw:SpecT:=zt 0 (Par.q (Par.ofLP lineL)) 1 [] znv default (Par.q (Par.ofLP lineL)) 1 []
theorem zrx:zf Tryz.prog 26 (znw).spec :=
 sK (A:=⟨[],[],[],[[1,2],[1,2],[2]],[]⟩) zazs fM Tryz.func26 (c:=(fb Tryz.f26)) (by kernel_rfl) (Lc:=0) trivial _ _ 5 _ _ _ _ _ _ [.pubB 2] (by rintro a0;kernel_rfl)
def zaow:List (List Nat):=[[0,2],[0,2,10],[2],[2,3],[2,3],[2,3],[2,3,26],[2,3,26,27],[2,3,4,26],[2,3,5,26],[2,3,26],[2,3,26],[2,3,6],[2,3,6,58,59,60],[2,3,6,58,59,60,61],[2,3,6,8,58,59,60],[2,3,6,58,59,60],[2,3,6,58,59,60],[2,3],[2]]
noncomputable def zaox:EnvT:=⟨Tryz.prog,zad [(24,zkq),(25,zjd),(26,znw),(27,zph)]⟩
theorem zaoy:(zaox).Ok:=ze ⟨znt,zlt,zrx,zs3,trivial⟩
def zao (x0:Int) (x1:Wld) (x2 x3:za): Tr ((Int×Wld×za×za)⊕(Wld×za×za)) :=
 (.ite (decide (x0 < 2))
  (.guard ((0:Int)≤x0∧(x0:Int) < 2)
  (.guard ((zbo (x3.Links.Told.get x0)).isSome=true)
  (.guard ((zbw (x3.Links.Done.get x0)).isSome=true)
  (.guard ((zbc (zc x3.Links x0).Out).isSome=true)
  (.leaf (.inl (i64.wrap (x0+1),x1,x2,{ x3 with Links:={ x3.Links with Told:=(x3.Links.Told.set x0 ((zbo (x3.Links.Told.get x0)).getD default)),Done:=(x3.Links.Done.set x0 ((zbw (x3.Links.Done.get x0)).getD default)),Said:=(x3.Links.Said.set x0 ((zbc (zc x3.Links x0).Out).getD default).Said),Due:=(x3.Links.Due.set x0 ((zbc (zc x3.Links x0).Out).getD default).Due),Got:=(x3.Links.Got.set x0 ((zbc (zc x3.Links x0).Out).getD default).Got),Closed:=(x3.Links.Closed.set x0 ((zbc (zc x3.Links x0).Out).getD default).Closed) } })))))))
  (.leaf (.inr (x1,x2,x3))))
def zdo (x0:Int) (x1:Wld) (x2 x3:za):=zdv (fun s:Int×Wld×za×za=>(zao s.1 s.2.1 s.2.2.1 s.2.2.2).run) (x0,x1,x2,x3)
def zasr:Ann:=⟨[],[],[],zaow,[]⟩
def zass:=EndD.mk (LQ.map (LQ.kp 1 0 (LQ.kp 2 0 (LQ.v intP (LQ.seq (LP.q zn6) (LQ.seq (LP.q providerL) (LQ.v intP (LQ.v intP (LQ.seq (LP.q bankL) (LQ.seq (LP.q validatorsL) (LQ.seq (LP.q (a4L (a6L (LP.one intP)))) (LQ.k (LQ.c (.own 3)) (LQ.v intP (LQ.v zm (LQ.seq (LP.q linksL) (LQ.seq (LP.q meterL) (LQ.v zeg (Par.q ziq))))))))))))))))) (fun x=>(x.1,x.2.1,x.2.2.1,(⟨x.2.2.2.1,(d4 x).1,(⟨(d4 x).2.1,(d4 x).2.2.1,(d4 x).2.2.2.1,(d12 x).2,(d8 x).1⟩:Stake),(d8 x).2.1,(d8 x).2.2.1,(d8 x).2.2.2.1,(d12 x).1⟩:za))) (fun y=>(y.1,y.2.1,y.2.2.1,y.2.2.2.Height,y.2.2.2.Time,y.2.2.2.Stake.Bank,y.2.2.2.Stake.Validators,y.2.2.2.Stake.Shares,y.2.2.2.Stake.Next,y.2.2.2.Set,y.2.2.2.Links,y.2.2.2.Meter,y.2.2.2.Queue,y.2.2.2.Stake.Waits)) (fun _=>rfl)) ⟨[2,3,26],[.nilcell 3 63 78 (.waits [])]⟩ [.cells 99 159,.cells 58 97,.cells 58 97,.rows 78]
def zajj:=EndD.mk (LQ.map (LQ.kp 1 0 (LQ.kp 2 0 (LQ.seq (LP.q zn6) (LQ.seq (LP.q providerL) (LQ.v intP (LQ.v intP (LQ.seq (LP.q bankL) (LQ.seq (LP.q validatorsL) (LQ.seq (LP.q (a4L (a6L (LP.one intP)))) (LQ.k (LQ.c (.own 3)) (LQ.v intP (LQ.v zm (LQ.seq (LP.q linksL) (LQ.seq (LP.q meterL) (LQ.v zeg (Par.q ziq)))))))))))))))) (fun x=>(x.1,x.2.1,(⟨x.2.2.1,x.2.2.2.1,(⟨(d4 x).1,(d4 x).2.1,(d4 x).2.2.1,(d12 x),(d4 x).2.2.2.1⟩:Stake),(d8 x).1,(d8 x).2.1,(d8 x).2.2.1,(d8 x).2.2.2.1⟩:za))) (fun y=>(y.1,y.2.1,y.2.2.Height,y.2.2.Time,y.2.2.Stake.Bank,y.2.2.Stake.Validators,y.2.2.Stake.Shares,y.2.2.Stake.Next,y.2.2.Set,y.2.2.Links,y.2.2.Meter,y.2.2.Queue,y.2.2.Stake.Waits)) (fun _=>rfl)) ⟨[2,3],[.nilcell 3 63 78 (.waits [])]⟩ [.cells 99 159,.cells 58 97,.cells 58 97,.rows 78]
def zal3:St→Option LR:=L1 77 10 1 zass (.exit 0) zajj (u4 zao)
def zs107a:=sub (fb Tryz.f10) [0,1,0,1,1,1,1,1]
theorem zast:zo (zaox).env 1 zs107a zal3 :=
 zf4 (A:=zasr) zaoy fM trivial (k:=zb5 zs107a) (by kernel_rfl) rfl (by rintro ⟨x0,x1,x2,x3⟩;kernel_rfl)
def za7 (x0:(List Asked)) (x1 x2:Int) (x3:Wld) (x4 x5:za) (x6:(List Asked)): Tr (((List Asked)×Int×Int×Wld×za×za×(List Asked))⊕(Wld×za×za×(List Asked))) :=
 (.ite (decide (x2 < x1))
  (.guard ((0:Int)≤x2∧x2 < ((Sl.len (.asked x0):Nat):Int))
  (.guard ((zev (x0.getD x2.toNat default).P).isSome=true)
  (.guard ((Sl.len (.asked x6)+Sl.len (.asked [(⟨(x0.getD x2.toNat default).C,((zev (x0.getD x2.toNat default).P).getD default)⟩:Asked)]))*88≤140737488355328)
  (.leaf (.inl (x0,x1,i64.wrap (x2+1),x3,x4,x5,x6++[(⟨(x0.getD x2.toNat default).C,((zev (x0.getD x2.toNat default).P).getD default)⟩:Asked)]))))))
  (.leaf (.inr (x3,x4,x5,x6))))
def zdp (x0:(List Asked)) (x1 x2:Int) (x3:Wld) (x4 x5:za) (x6:(List Asked)):=zdv (fun s:(List Asked)×Int×Int×Wld×za×za×(List Asked)=>(za7 s.1 s.2.1 s.2.2.1 s.2.2.2.1 s.2.2.2.2.1 s.2.2.2.2.2.1 s.2.2.2.2.2.2).run) (x0,x1,x2,x3,x4,x5,x6)
def zasu:Ann:=⟨[],[],[],zaow,[]⟩
def zasv:=EndD.mk (LQ.map (LQ.kp 1 0 (LQ.kp 2 0 (LQ.k (LQ.c (.own 3)) (LQ.v zeg (LQ.v intP (LQ.v intP (LQ.seq (LP.q zn6) (LQ.seq (LP.q providerL) (LQ.v intP (LQ.v intP (LQ.seq (LP.q bankL) (LQ.seq (LP.q validatorsL) (LQ.seq (LP.q (a4L (a6L (LP.one intP)))) (LQ.k (LQ.c (.own 4)) (LQ.v intP (LQ.v zm (LQ.seq (LP.q linksL) (LQ.seq (LP.q meterL) (LQ.v zeg (LQ.v zeg (Par.q ziq))))))))))))))))))))) (fun x=>(x.1,x.2.1,x.2.2.1,x.2.2.2.1,(d4 x).1,(⟨(d4 x).2.1,(d4 x).2.2.1,(⟨(d4 x).2.2.2.1,(d8 x).1,(d8 x).2.1,(d16 x),(d8 x).2.2.1⟩:Stake),(d8 x).2.2.2.1,(d12 x).1,(d12 x).2.1,(d12 x).2.2.1⟩:za),(d12 x).2.2.2.1)) (fun y=>(y.1,y.2.1,y.2.2.1,y.2.2.2.1,(d4 y).1,(d4 y).2.1.Height,(d4 y).2.1.Time,(d4 y).2.1.Stake.Bank,(d4 y).2.1.Stake.Validators,(d4 y).2.1.Stake.Shares,(d4 y).2.1.Stake.Next,(d4 y).2.1.Set,(d4 y).2.1.Links,(d4 y).2.1.Meter,(d4 y).2.1.Queue,(d4 y).2.2,(d4 y).2.1.Stake.Waits)) (fun _=>rfl)) ⟨[2,3,6,58,59,60],[.nilcell 3 63 78 (.waits []),.nilown 6 90 (.asked []),.pub 58,.nilsl 58 (.asked [])]⟩ [.cells 99 159,.cells 58 97,.cells 58 97,.rows 90,.rows 78]
def zajk:=EndD.mk (LQ.map (LQ.kp 1 0 (LQ.kp 2 0 (LQ.k (LQ.c (.own 3)) (LQ.seq (LP.q zn6) (LQ.seq (LP.q providerL) (LQ.v intP (LQ.v intP (LQ.seq (LP.q bankL) (LQ.seq (LP.q validatorsL) (LQ.seq (LP.q (a4L (a6L (LP.one intP)))) (LQ.k (LQ.c (.own 4)) (LQ.v intP (LQ.v zm (LQ.seq (LP.q linksL) (LQ.seq (LP.q meterL) (LQ.v zeg (LQ.v zeg (Par.q ziq)))))))))))))))))) (fun x=>(x.1,x.2.1,(⟨x.2.2.1,x.2.2.2.1,(⟨(d4 x).1,(d4 x).2.1,(d4 x).2.2.1,(d12 x).2,(d4 x).2.2.2.1⟩:Stake),(d8 x).1,(d8 x).2.1,(d8 x).2.2.1,(d8 x).2.2.2.1⟩:za),(d12 x).1)) (fun y=>(y.1,y.2.1,y.2.2.1.Height,y.2.2.1.Time,y.2.2.1.Stake.Bank,y.2.2.1.Stake.Validators,y.2.2.1.Stake.Shares,y.2.2.1.Stake.Next,y.2.2.1.Set,y.2.2.1.Links,y.2.2.1.Meter,y.2.2.1.Queue,y.2.2.2,y.2.2.1.Stake.Waits)) (fun _=>rfl)) ⟨[2,3,6],[.nilcell 3 63 78 (.waits []),.nilown 6 90 (.asked [])]⟩ [.cells 99 159,.cells 58 97,.cells 58 97,.rows 90,.rows 78]
def zal4:St→Option LR:=L1 77 10 1 zasv (.exit 2) zajk (u7 za7)
def zs107b:=sub (fb Tryz.f10) [0,1,0,1,1,1,1,1,1,1]
theorem zasw:zo (zaox).env 1 zs107b zal4 :=
 zf4 (A:=zasu) zaoy fM trivial (k:=zb5 zs107b) (by kernel_rfl) rfl (by rintro ⟨x0,x1,x2,x3,x4,x5,x6⟩;kernel_rfl)
def zfr (a0:Wld): Tr (za×Wld) :=
 (.guard ((0+Sl.len (.waits a0.p.Stake.Waits))*64≤140737488355328)
 (.bind (zbo a0.p.Set) fun v1 =>
 (.bind (zdo 0 a0 (default:za) ({ a0.p with Set:=v1 })) fun v2 =>
 (.bind (zdp v2.2.2.Queue ((v2.2.2.Queue.length:Nat):Int) 0 v2.1 v2.2.1 v2.2.2 []) fun v3 =>
 (.leaf ({ v3.2.2.1 with Queue:=v3.2.2.2 },v3.1))))))
def zc2 (a0:Wld):=(zfr a0).run
def zjp:SpecT:=zt 1 (LQ.kp 0 0 (LP.q zn6)) 1 [.cells 99 159] zfr default (LQ.v (Par.ofLP providerL) (LP.q zn6)) 1 [.cells 99 159]
theorem zrc:zf Tryz.prog 10 (zjp).spec :=
 sK (A:=⟨[([0,1,0,1,1,1,1,1],zal3),([0,1,0,1,1,1,1,1,1,1],zal4)],[],[[1,0,1]],zaow,[]⟩) zaoy fM Tryz.func10 (c:=(fb Tryz.f10)) (by kernel_rfl) (Lc:=1) ⟨zast,zasw,trivial⟩ _ _ 10 _ _ _ _ _ _ [.pubN 0,.pubB 2] (by rintro a0;kernel_rfl)
def zasx:List (List Nat):=[[0,1,4],[0,1,4,18],[4],[4,5],[4,5],[4,5,6],[4,5,6,39,40,41],[4,5,6,39,40,41,42],[4,5,6,8,39,40,41],[4,5,6,39,40,41],[4,5,6,39,40,41],[4,5],[4]]
noncomputable def zasy:EnvT:=⟨Tryz.prog,zad [(24,zkq),(26,znw),(27,zph)]⟩
theorem zasz:(zasy).Ok:=ze ⟨znt,zrx,zs3,trivial⟩
def za8 (x0:(List Packet)) (x1 x2:Int) (x3:Wld) (x4 x5:Consumer) (x6:(List Packet)): Tr (((List Packet)×Int×Int×Wld×Consumer×Consumer×(List Packet))⊕(Wld×Consumer×Consumer×(List Packet))) :=
 (.ite (decide (x2 < x1))
  (.guard ((0:Int)≤x2∧x2 < ((Sl.len (.packets x0):Nat):Int))
  (.bind (zev (x0.getD x2.toNat default)) fun v1 =>
  (.guard ((Sl.len (.packets x6)+Sl.len (.packets [v1]))*80≤140737488355328)
  (.leaf (.inl (x0,x1,i64.wrap (x2+1),x3,x4,x5,x6++[v1]))))))
  (.leaf (.inr (x3,x4,x5,x6))))
def zdq (x0:(List Packet)) (x1 x2:Int) (x3:Wld) (x4 x5:Consumer) (x6:(List Packet)):=zdv (fun s:(List Packet)×Int×Int×Wld×Consumer×Consumer×(List Packet)=>(za8 s.1 s.2.1 s.2.2.1 s.2.2.2.1 s.2.2.2.2.1 s.2.2.2.2.2.1 s.2.2.2.2.2.2).run) (x0,x1,x2,x3,x4,x5,x6)
def zas0:Ann:=⟨[],[],[],zasx,[]⟩
def zas1:=EndD.mk (LQ.map (LQ.kp 1 0 (LQ.kp 2 0 (LQ.k (LQ.c (.own 3)) (LQ.v zdd (LQ.v intP (LQ.v intP (LQ.seq (LP.q zn6) (LQ.seq (LP.q z6) (LQ.v boolP (LQ.v boolP (LQ.v intP (LQ.v intP (LQ.v intP (LQ.v zm (LQ.v zdd (LQ.k (LQ.c (.own 4)) (LQ.seq (LP.q (a6L (LP.one boolP))) (LQ.seq (LP.q lineL) (LQ.seq (LP.q z4l) (LQ.v zdd (Par.q zub))))))))))))))))))))) (fun x=>(x.1,x.2.1,x.2.2.1,x.2.2.2.1,(d4 x).1,(⟨(d4 x).2.1,(d4 x).2.2.1,(d4 x).2.2.2.1,(d8 x).1,(d8 x).2.1,(d8 x).2.2.1,(d8 x).2.2.2.1,(d16 x),(d12 x).1,(d12 x).2.1,(d12 x).2.2.1⟩:Consumer),(d12 x).2.2.2.1)) (fun y=>(y.1,y.2.1,y.2.2.1,y.2.2.2.1,(d4 y).1,(d4 y).2.1.On,(d4 y).2.1.Gone,(d4 y).2.1.Height,(d4 y).2.1.Time,(d4 y).2.1.Id,(d4 y).2.1.Set,(d4 y).2.1.Pending,(d4 y).2.1.Flags,(d4 y).2.1.Out,(d4 y).2.1.Seen,(d4 y).2.2,(d4 y).2.1.Ripes)) (fun _=>rfl)) ⟨[4,5,6,39,40,41],[.nilcell 5 7 93 (.ripes []),.nilown 6 73 (.packets []),.pub 39,.nilsl 39 (.packets [])]⟩ [.cells 99 159,.cells 64 22,.cells 64 22,.rows 73,.rows 93]
def zajl:=EndD.mk (LQ.map (LQ.kp 1 0 (LQ.kp 2 0 (LQ.k (LQ.c (.own 3)) (LQ.seq (LP.q zn6) (LQ.seq (LP.q z6) (LQ.v boolP (LQ.v boolP (LQ.v intP (LQ.v intP (LQ.v intP (LQ.v zm (LQ.v zdd (LQ.k (LQ.c (.own 4)) (LQ.seq (LP.q (a6L (LP.one boolP))) (LQ.seq (LP.q lineL) (LQ.seq (LP.q z4l) (LQ.v zdd (Par.q zub)))))))))))))))))) (fun x=>(x.1,x.2.1,(⟨x.2.2.1,x.2.2.2.1,(d4 x).1,(d4 x).2.1,(d4 x).2.2.1,(d4 x).2.2.2.1,(d8 x).1,(d12 x).2,(d8 x).2.1,(d8 x).2.2.1,(d8 x).2.2.2.1⟩:Consumer),(d12 x).1)) (fun y=>(y.1,y.2.1,y.2.2.1.On,y.2.2.1.Gone,y.2.2.1.Height,y.2.2.1.Time,y.2.2.1.Id,y.2.2.1.Set,y.2.2.1.Pending,y.2.2.1.Flags,y.2.2.1.Out,y.2.2.1.Seen,y.2.2.2,y.2.2.1.Ripes)) (fun _=>rfl)) ⟨[4,5,6],[.nilcell 5 7 93 (.ripes []),.nilown 6 73 (.packets [])]⟩ [.cells 99 159,.cells 64 22,.cells 64 22,.rows 73,.rows 93]
def zal5:St→Option LR:=L1 54 10 1 zas1 (.exit 0) zajl (u7 za8)
def zs108a:=sub (fb Tryz.f11) [0,1,0,1,1,1,1,1]
theorem zas2:zo (zasy).env 1 zs108a zal5 :=
 zf4 (A:=zas0) zasz fM trivial (k:=zb5 zs108a) (by kernel_rfl) rfl (by rintro ⟨x0,x1,x2,x3,x4,x5,x6⟩;kernel_rfl)
def zfs (a0:Int) (a1:Wld): Tr (Consumer×Wld) :=
 (.ite ((false||(decide (a0 < 0)))||(decide (a0≥2)))
  (.leaf ((default:Consumer),a1))
  (.guard ((0:Int)≤a0∧(a0:Int) < 2)
  (.guard ((zbo (a1.consumers.Set.get a0)).isSome=true)
  (.guard ((zbc (zb a1.consumers a0).Out).isSome=true)
  (.guard ((0+Sl.len (.ripes (a1.consumers.Ripes.get a0)))*16≤140737488355328)
  (.bind (zdq (a1.consumers.Pending.get a0) (((a1.consumers.Pending.get a0).length:Nat):Int) 0 a1 (default:Consumer) ({ ((zb a1.consumers a0):Consumer) with Set:=((zbo (a1.consumers.Set.get a0)).getD default),Out:=((zbc (zb a1.consumers a0).Out).getD default) }) []) fun v2 =>
  (.leaf ({ v2.2.2.1 with Pending:=v2.2.2.2 },v2.1))))))))
def zay (a0:Int) (a1:Wld):=(zfs a0 a1).run
def zft:SpecT:=zt 1 (LQ.kp 0 0 (LQ.v intP (LP.q zn6))) 2 [.cells 99 159] (u2 zfs) default (LQ.v (Par.ofLP z6) (LP.q zn6)) 1 [.cells 99 159]
theorem zje:zf Tryz.prog 11 (zft).spec :=
 sK (A:=⟨[([0,1,0,1,1,1,1,1],zal5)],[],[],zasx,[]⟩) zasz fM Tryz.func11 (c:=(fb Tryz.f11)) (by kernel_rfl) (Lc:=1) ⟨zas2,trivial⟩ _ _ 10 _ _ _ _ _ _ [.pubN 0,.pubB 4] (by rintro ⟨a0,a1⟩;kernel_rfl)
noncomputable def zazt:EnvT:=⟨Tryz.prog,zad [(113,zkn)]⟩
theorem zazu:(zazt).Ok:=ze ⟨zm5,trivial⟩
def zs4 (a0:zgz) (a1:Bool): Tr (ByteArray) :=
 (.ite (decide (a0.Got < ((a0.Said.length:Nat):Int)))
  (.guard ((0:Int)≤a0.Got∧a0.Got < ((Sl.len (.strs a0.Said):Nat):Int))
  (.ite (!a1)
   (.leaf (a0.Said.getD a0.Got.toNat .empty))
   (.bind (za5 (⟨3,1,0,i64.wrap (1+(((a0.Said.getD a0.Got.toNat .empty).size:Nat):Int)),[],[]⟩:Packet)) fun v1 =>
   (.leaf v1.1))))
  (.ite (!a1)
   (.leaf (⟨#[]⟩:ByteArray))
   (.bind (za5 (⟨3,1,0,i64.wrap (1+(((⟨#[]⟩:ByteArray).size:Nat):Int)),[],[]⟩:Packet)) fun v2 =>
   (.leaf v2.1))))
def zml (a0:zgz) (a1:Bool):=(zs4 a0 a1).run
def zyy:SpecT:=zt 0 (LQ.v (Par.ofLP lineL) (Par.q boolP)) 2 [] (u2 zs4) default (Par.q strP) 1 []
theorem z5t:zf Tryz.prog 78 (zyy).spec :=
 sK (A:=⟨[],[],[],[[1,2],[1,2,5],[1,2,5,11],[1,5],[5,19],[4],[5],[4]],[]⟩) zazu fM Tryz.func78 (c:=(fb Tryz.f78)) (by kernel_rfl) (Lc:=0) trivial _ _ 3 _ _ _ _ _ _ [] (by rintro ⟨a0,a1⟩;kernel_rfl)
def zas3:List (List Nat):=[[0,2],[0,2,3,4,5],[0,2,3,4,5,21],[2],[0,2,3,4],[0,2,3,4,28],[0,2,3,4,28,29],[0,2,3,4,6,28],[0,2,3,4,28],[0,2,3,4,28],[2]]
noncomputable def zas4:EnvT:=⟨Tryz.prog,zad [(46,zuq)]⟩
theorem zas5:(zas4).Ok:=ze ⟨z1b,trivial⟩
def zav (x0:(List Int)) (x1:Int) (x2:Wld) (x3:Reply) (x4:za): Tr (((List Int)×Int×Wld×Reply×za)⊕((List Int)×Wld×Reply)) :=
 (.ite (decide (x1 < 2))
  (.guard ((0:Int)≤x1∧(x1:Int) < 2)
  (.guard ((0:Int)≤x1∧(x1:Int) < 2)
  (.guard ((0:Int)≤x1∧(x1:Int) < 2)
  (.guard ((0:Int)≤0∧(0:Int) < 2)
  (.leaf (.inl (x0,i64.wrap (x1+1),{ x2 with heads:={ x2.heads with PHeight:=(x2.heads.PHeight.set x1 x4.Height),PTime:=(x2.heads.PTime.set x1 x4.Time),PSaid:=(x2.heads.PSaid.set x1 (((x4.Links.Said.get x1).length:Nat):Int)),PGot:=(x2.heads.PGot.set x1 (x2.consumers.Got.get x1)) } },x3,x4)))))))
  (.leaf (.inr (x0,x2,x3))))
def zec (x0:(List Int)) (x1:Int) (x2:Wld) (x3:Reply) (x4:za):=zdv (fun s:(List Int)×Int×Wld×Reply×za=>(zav s.1 s.2.1 s.2.2.1 s.2.2.2.1 s.2.2.2.2).run) (x0,x1,x2,x3,x4)
def zas6:Ann:=⟨[],[],[],zas3,[]⟩
def zas7:=EndD.mk (LQ.kp 0 0 (LQ.kp 1 0 (LQ.kp 2 0 (LQ.v zf5 (LQ.v intP (LQ.seq (LP.q zn6) (LQ.seq (LP.q zyl) (LP.q providerL)))))))) ⟨[0,2,3,4,28],[.pub 4,.nilsl 4 (.ints [])]⟩ [.cells 99 159,.cells 32 2,.cells 58 97]
def zajm:=EndD.mk (LQ.kp 1 0 (LQ.v zf5 (LQ.seq (LP.q zn6) (LP.q zyl)))) ⟨[2,4],[.pub 4,.nilsl 4 (.ints [])]⟩ [.cells 99 159,.cells 32 2]
def zal6:St→Option LR:=L1 61 5 1 zas7 (.exit 0) zajm (u5 zav)
def zs110a:=sub (fb Tryz.f34) [0,1,0,1,1,1,1]
theorem zas8:zo (zas4).env 1 zs110a zal6 :=
 zf4 (A:=zas6) zas5 fM trivial (k:=zb5 zs110a) (by kernel_rfl) rfl (by rintro ⟨x0,x1,x2,x3,x4⟩;kernel_rfl)
def zgd (a0:Wld): Tr (Reply×Wld) :=
 (.guard ((zci a0.p a0.clock).isSome=true)
 (.ite (((zci a0.p a0.clock).getD default).2.2 != 0)
  (.leaf ((⟨((zci a0.p a0.clock).getD default).2.2,0⟩:Reply),a0))
  (.bind (zec ((zci a0.p a0.clock).getD default).2.1 0 ({ a0 with p:=((zci a0.p a0.clock).getD default).1 }) (⟨0,0⟩:Reply) ((zci a0.p a0.clock).getD default).1) fun v1 =>
  (.leaf ((⟨0,((v1.1.length:Nat):Int)⟩:Reply),v1.2.1)))))
def zfu (a0:Wld):=(zgd a0).run
def zk8:SpecT:=zt 1 (LQ.kp 0 0 (LP.q zn6)) 1 [.cells 99 159] zgd default (LQ.v (Par.ofLP zyl) (LP.q zn6)) 1 [.cells 99 159]
theorem zr1:zf Tryz.prog 34 (zk8).spec :=
 sK (A:=⟨[([0,1,0,1,1,1,1],zal6)],[],[],zas3,[]⟩) zas5 fM Tryz.func34 (c:=(fb Tryz.f34)) (by kernel_rfl) (Lc:=1) ⟨zas8,trivial⟩ _ _ 5 _ _ _ _ _ _ [.pubN 0] (by rintro a0;kernel_rfl)
noncomputable def zazv:EnvT:=⟨Tryz.prog,zad [(78,zyy),(79,zui),(80,zsz),(81,zsx)]⟩
theorem zazw:(zazv).Ok:=ze ⟨z5t,z0z,zze,zzc,trivial⟩
def zge (a0:Deed) (a1:Wld): Tr (Reply×Wld) :=
 (.guard ((0:Int)≤a0.C∧(a0.C:Int) < 2)
 (.guard ((0:Int)≤a0.C∧(a0.C:Int) < 2)
 (.ite (a0.Back)
  (.bind (zml (zb a1.consumers a0.C).Out a0.Forged) fun v1 =>
  (.guard ((zg (zb a1.consumers a0.C).Out (i64.wrap ((a1.consumers.Got.get a0.C)+1)) v1 (a1.p.Links.SSaid.get a0.C) a1.clock).isSome=true)
  (.ite (((zg (zb a1.consumers a0.C).Out (i64.wrap ((a1.consumers.Got.get a0.C)+1)) v1 (a1.p.Links.SSaid.get a0.C) a1.clock).getD default).2 != 0)
   (.leaf ((⟨((zg (zb a1.consumers a0.C).Out (i64.wrap ((a1.consumers.Got.get a0.C)+1)) v1 (a1.p.Links.SSaid.get a0.C) a1.clock).getD default).2,0⟩:Reply),a1))
   (.ite (a0.Back)
    (.guard ((zaw a1.p a0.C v1).isSome=true)
    (.ite (((zaw a1.p a0.C v1).getD default).2 != 0)
     (.leaf ((⟨((zaw a1.p a0.C v1).getD default).2,0⟩:Reply),a1))
     (.leaf ((⟨0,((zg (zb a1.consumers a0.C).Out (i64.wrap ((a1.consumers.Got.get a0.C)+1)) v1 (a1.p.Links.SSaid.get a0.C) a1.clock).getD default).1.Got⟩:Reply),{ a1 with p:=((zaw a1.p a0.C v1).getD default).1,consumers:={ a1.consumers with Said:=(a1.consumers.Said.set a0.C ((zg (zb a1.consumers a0.C).Out (i64.wrap ((a1.consumers.Got.get a0.C)+1)) v1 (a1.p.Links.SSaid.get a0.C) a1.clock).getD default).1.Said),Due:=(a1.consumers.Due.set a0.C ((zg (zb a1.consumers a0.C).Out (i64.wrap ((a1.consumers.Got.get a0.C)+1)) v1 (a1.p.Links.SSaid.get a0.C) a1.clock).getD default).1.Due),Got:=(a1.consumers.Got.set a0.C ((zg (zb a1.consumers a0.C).Out (i64.wrap ((a1.consumers.Got.get a0.C)+1)) v1 (a1.p.Links.SSaid.get a0.C) a1.clock).getD default).1.Got),Closed:=(a1.consumers.Closed.set a0.C ((zg (zb a1.consumers a0.C).Out (i64.wrap ((a1.consumers.Got.get a0.C)+1)) v1 (a1.p.Links.SSaid.get a0.C) a1.clock).getD default).1.Closed) } }))))
    (.bind (zhs (zb a1.consumers a0.C) v1) fun v2 =>
    (.ite (v2.2 != 0)
     (.leaf ((⟨v2.2,0⟩:Reply),a1))
     (.leaf ((⟨0,((zg (zb a1.consumers a0.C).Out (i64.wrap ((a1.consumers.Got.get a0.C)+1)) v1 (a1.p.Links.SSaid.get a0.C) a1.clock).getD default).1.Got⟩:Reply),{ a1 with p:={ a1.p with Links:={ a1.p.Links with Said:=(a1.p.Links.Said.set a0.C ((zg (zb a1.consumers a0.C).Out (i64.wrap ((a1.consumers.Got.get a0.C)+1)) v1 (a1.p.Links.SSaid.get a0.C) a1.clock).getD default).1.Said),Due:=(a1.p.Links.Due.set a0.C ((zg (zb a1.consumers a0.C).Out (i64.wrap ((a1.consumers.Got.get a0.C)+1)) v1 (a1.p.Links.SSaid.get a0.C) a1.clock).getD default).1.Due),Got:=(a1.p.Links.Got.set a0.C ((zg (zb a1.consumers a0.C).Out (i64.wrap ((a1.consumers.Got.get a0.C)+1)) v1 (a1.p.Links.SSaid.get a0.C) a1.clock).getD default).1.Got),Closed:=(a1.p.Links.Closed.set a0.C ((zg (zb a1.consumers a0.C).Out (i64.wrap ((a1.consumers.Got.get a0.C)+1)) v1 (a1.p.Links.SSaid.get a0.C) a1.clock).getD default).1.Closed) } },consumers:=(zkf a1.consumers a0.C v2.1) }))))))))
  (.bind (zml (zc a1.p.Links a0.C).Out a0.Forged) fun v3 =>
  (.guard ((zg (zc a1.p.Links a0.C).Out (i64.wrap ((a1.p.Links.Got.get a0.C)+1)) v3 (a1.consumers.SSaid.get a0.C) a1.clock).isSome=true)
  (.ite (((zg (zc a1.p.Links a0.C).Out (i64.wrap ((a1.p.Links.Got.get a0.C)+1)) v3 (a1.consumers.SSaid.get a0.C) a1.clock).getD default).2 != 0)
   (.leaf ((⟨((zg (zc a1.p.Links a0.C).Out (i64.wrap ((a1.p.Links.Got.get a0.C)+1)) v3 (a1.consumers.SSaid.get a0.C) a1.clock).getD default).2,0⟩:Reply),a1))
   (.ite (a0.Back)
    (.guard ((zaw a1.p a0.C v3).isSome=true)
    (.ite (((zaw a1.p a0.C v3).getD default).2 != 0)
     (.leaf ((⟨((zaw a1.p a0.C v3).getD default).2,0⟩:Reply),a1))
     (.leaf ((⟨0,((zg (zc a1.p.Links a0.C).Out (i64.wrap ((a1.p.Links.Got.get a0.C)+1)) v3 (a1.consumers.SSaid.get a0.C) a1.clock).getD default).1.Got⟩:Reply),{ a1 with p:=((zaw a1.p a0.C v3).getD default).1,consumers:={ a1.consumers with Said:=(a1.consumers.Said.set a0.C ((zg (zc a1.p.Links a0.C).Out (i64.wrap ((a1.p.Links.Got.get a0.C)+1)) v3 (a1.consumers.SSaid.get a0.C) a1.clock).getD default).1.Said),Due:=(a1.consumers.Due.set a0.C ((zg (zc a1.p.Links a0.C).Out (i64.wrap ((a1.p.Links.Got.get a0.C)+1)) v3 (a1.consumers.SSaid.get a0.C) a1.clock).getD default).1.Due),Got:=(a1.consumers.Got.set a0.C ((zg (zc a1.p.Links a0.C).Out (i64.wrap ((a1.p.Links.Got.get a0.C)+1)) v3 (a1.consumers.SSaid.get a0.C) a1.clock).getD default).1.Got),Closed:=(a1.consumers.Closed.set a0.C ((zg (zc a1.p.Links a0.C).Out (i64.wrap ((a1.p.Links.Got.get a0.C)+1)) v3 (a1.consumers.SSaid.get a0.C) a1.clock).getD default).1.Closed) } }))))
    (.bind (zhs (zb a1.consumers a0.C) v3) fun v4 =>
    (.ite (v4.2 != 0)
     (.leaf ((⟨v4.2,0⟩:Reply),a1))
     (.leaf ((⟨0,((zg (zc a1.p.Links a0.C).Out (i64.wrap ((a1.p.Links.Got.get a0.C)+1)) v3 (a1.consumers.SSaid.get a0.C) a1.clock).getD default).1.Got⟩:Reply),{ a1 with p:={ a1.p with Links:={ a1.p.Links with Said:=(a1.p.Links.Said.set a0.C ((zg (zc a1.p.Links a0.C).Out (i64.wrap ((a1.p.Links.Got.get a0.C)+1)) v3 (a1.consumers.SSaid.get a0.C) a1.clock).getD default).1.Said),Due:=(a1.p.Links.Due.set a0.C ((zg (zc a1.p.Links a0.C).Out (i64.wrap ((a1.p.Links.Got.get a0.C)+1)) v3 (a1.consumers.SSaid.get a0.C) a1.clock).getD default).1.Due),Got:=(a1.p.Links.Got.set a0.C ((zg (zc a1.p.Links a0.C).Out (i64.wrap ((a1.p.Links.Got.get a0.C)+1)) v3 (a1.consumers.SSaid.get a0.C) a1.clock).getD default).1.Got),Closed:=(a1.p.Links.Closed.set a0.C ((zg (zc a1.p.Links a0.C).Out (i64.wrap ((a1.p.Links.Got.get a0.C)+1)) v3 (a1.consumers.SSaid.get a0.C) a1.clock).getD default).1.Closed) } },consumers:=(zkf a1.consumers a0.C v4.1) })))))))))))
def zfv (a0:Deed) (a1:Wld):=(zge a0 a1).run
def zk9:SpecT:=zt 1 (LQ.kp 0 0 (LQ.v (Par.ofLP deedL) (LP.q zn6))) 2 [.cells 99 159] (u2 zge) default (LQ.v (Par.ofLP zyl) (LP.q zn6)) 1 [.cells 99 159]
theorem zr2:zf Tryz.prog 50 (zk9).spec :=
 sK (A:=⟨[],[],[],[[0,3,4],[0,3,4,5,6],[0,3,4,5,6,7,8],[0,3,4,5,6,7,8,37],[0,3,4,5,6,7,8],[0,3,4,5,6,7,8,9],[0,3,4,5,6,7,9,10],[0,3,4,5,6,7,9,10,66],[4],[0,3,4,5,6,7,9,70],[0,4,5,7,11,12],[0,4,5,7,11,12,83],[4],[4,7],[4],[4,5,6,7,10,13],[4,5,6,7,10,13,106],[4],[4,7],[4]],[]⟩) zazw fM Tryz.func50 (c:=(fb Tryz.f50)) (by kernel_rfl) (Lc:=1) trivial _ _ 7 _ _ _ _ _ _ [.pubN 0] (by rintro ⟨a0,a1⟩;kernel_rfl)
noncomputable def zazx:EnvT:=⟨Tryz.prog,zad [(82,zw3),(83,zp5),(84,zp3)]⟩
theorem zazy:(zazx).Ok:=ze ⟨z22,zxb,zw9,trivial⟩
def zg6 (a0:Deed) (a1:Wld): Tr (Reply×Wld) :=
 (.guard ((0:Int)≤a0.C∧(a0.C:Int) < 2)
 (.guard ((0:Int)≤a0.C∧(a0.C:Int) < 2)
 (.ite (a0.Back)
  (.bind (zkl (zb a1.consumers a0.C).Out a0.N (a1.consumers.STime.get a0.C) (a1.consumers.SGot.get a0.C)) fun v1 =>
  (.ite (v1.2 != 0)
   (.leaf ((⟨v1.2,0⟩:Reply),a1))
   (.guard ((zcq a1.p a0.C).isSome=true)
   (.bind (zfz (zb a1.consumers a0.C)) fun v2 =>
   (.leaf ((⟨0,0⟩:Reply),{ a1 with p:=((zcq a1.p a0.C).getD default),consumers:=(zkf a1.consumers a0.C v2) }))))))
  (.bind (zkl (zc a1.p.Links a0.C).Out a0.N (a1.p.Links.STime.get a0.C) (a1.p.Links.SGot.get a0.C)) fun v3 =>
  (.ite (v3.2 != 0)
   (.leaf ((⟨v3.2,0⟩:Reply),a1))
   (.guard ((zcq a1.p a0.C).isSome=true)
   (.bind (zfz (zb a1.consumers a0.C)) fun v4 =>
   (.leaf ((⟨0,0⟩:Reply),{ a1 with p:=((zcq a1.p a0.C).getD default),consumers:=(zkf a1.consumers a0.C v4) })))))))))
def zgf (a0:Deed) (a1:Wld):=(zg6 a0 a1).run
def zl2:SpecT:=zt 1 (LQ.kp 0 0 (LQ.v (Par.ofLP deedL) (LP.q zn6))) 2 [.cells 99 159] (u2 zg6) default (LQ.v (Par.ofLP zyl) (LP.q zn6)) 1 [.cells 99 159]
theorem zs5:zf Tryz.prog 51 (zl2).spec :=
 sK (A:=⟨[],[],[],[[0,3,4],[0,3,4,5,6],[0,3,4,5,7,8],[0,3,4,5,7,8,33],[0,3,4,5,7,8],[0,3,4,5,10],[0,3,4,5,10,54],[4],[4,5],[4],[4]],[]⟩) zazy fM Tryz.func51 (c:=(fb Tryz.f51)) (by kernel_rfl) (Lc:=1) trivial _ _ 8 _ _ _ _ _ _ [.pubN 0] (by rintro ⟨a0,a1⟩;kernel_rfl)
noncomputable def zazz:EnvT:=⟨Tryz.prog,zad [(47,zrw),(48,zrv),(49,zum),(50,zk9),(51,zl2),(52,zsy),(53,zp2)]⟩
theorem zaz0:(zazz).Ok:=ze ⟨zx8,zx7,z07,zr2,zs5,zzd,zw8,trivial⟩
def zgg (a0:Deed) (a1:Wld): Tr (Reply×Wld) :=
 (.ite ((decide (a0.Kind < 4))||(decide (a0.Kind > 12)))
  (.leaf ((⟨3,0⟩:Reply),a1))
  (.ite ((decide (a0.C < 0))||(decide (a0.C≥2)))
   (.leaf ((⟨4,0⟩:Reply),a1))
   (.guard ((0:Int)≤a0.C∧(a0.C:Int) < 2)
   (.ite ((a0.Kind != 4)&&(!(a1.consumers.On.get a0.C)))
    (.leaf ((⟨4,0⟩:Reply),a1))
    (.ite (a0.Kind==4)
     (.guard ((zak a1.p a0.C).isSome=true)
     (.ite (((zak a1.p a0.C).getD default).2 != 0)
      (.leaf ((⟨((zak a1.p a0.C).getD default).2,0⟩:Reply),a1))
      (.guard ((zgs ((zak a1.p a0.C).getD default).1.Set ((zak a1.p a0.C).getD default).1.Height a1.clock).isSome=true)
      (.guard ((0:Int)≤a0.C∧(a0.C:Int) < 2)
      (.leaf ((⟨0,((zak a1.p a0.C).getD default).1.Height⟩:Reply),(⟨a1.clock,((zak a1.p a0.C).getD default).1,(zkf a1.consumers a0.C ((zgs ((zak a1.p a0.C).getD default).1.Set ((zak a1.p a0.C).getD default).1.Height a1.clock).getD default)),(⟨(a1.heads.PHeight.set a0.C 0),(a1.heads.PTime.set a0.C 0),(a1.heads.PSaid.set a0.C 0),(a1.heads.PGot.set a0.C 0),(a1.heads.CHeight.set a0.C 0),(a1.heads.CTime.set a0.C 0),(a1.heads.CSaid.set a0.C 0),(a1.heads.CGot.set a0.C 0)⟩:zt0),a1.deeds⟩:Wld)))))))
     (.ite (a0.Kind==7)
      (.guard ((zu (zb a1.consumers a0.C) a1.clock).isSome=true)
      (.ite (((zu (zb a1.consumers a0.C) a1.clock).getD default).2==0)
       (.guard ((0:Int)≤a0.C∧(a0.C:Int) < 2)
       (.guard ((0:Int)≤a0.C∧(a0.C:Int) < 2)
       (.guard ((0:Int)≤1∧(1:Int) < 2)
       (.ite (((zu (zb a1.consumers a0.C) a1.clock).getD default).2 != 0)
        (.leaf ((⟨((zu (zb a1.consumers a0.C) a1.clock).getD default).2,0⟩:Reply),{ a1 with heads:={ a1.heads with CHeight:=(a1.heads.CHeight.set a0.C ((zu (zb a1.consumers a0.C) a1.clock).getD default).1.Height),CTime:=(a1.heads.CTime.set a0.C ((zu (zb a1.consumers a0.C) a1.clock).getD default).1.Time),CSaid:=(a1.heads.CSaid.set a0.C ((((zu (zb a1.consumers a0.C) a1.clock).getD default).1.Out.Said.length:Nat):Int)),CGot:=(a1.heads.CGot.set a0.C (a1.p.Links.Got.get a0.C)) } }))
        (.leaf ((⟨0,0⟩:Reply),{ a1 with consumers:=(zkf a1.consumers a0.C ((zu (zb a1.consumers a0.C) a1.clock).getD default).1),heads:={ a1.heads with CHeight:=(a1.heads.CHeight.set a0.C ((zu (zb a1.consumers a0.C) a1.clock).getD default).1.Height),CTime:=(a1.heads.CTime.set a0.C ((zu (zb a1.consumers a0.C) a1.clock).getD default).1.Time),CSaid:=(a1.heads.CSaid.set a0.C ((((zu (zb a1.consumers a0.C) a1.clock).getD default).1.Out.Said.length:Nat):Int)),CGot:=(a1.heads.CGot.set a0.C (a1.p.Links.Got.get a0.C)) } }))))))
       (.ite (((zu (zb a1.consumers a0.C) a1.clock).getD default).2 != 0)
        (.leaf ((⟨((zu (zb a1.consumers a0.C) a1.clock).getD default).2,0⟩:Reply),a1))
        (.leaf ((⟨0,0⟩:Reply),{ a1 with consumers:=(zkf a1.consumers a0.C ((zu (zb a1.consumers a0.C) a1.clock).getD default).1) })))))
      (.ite (a0.Kind==8)
       (.ite (a0.Back)
        (.guard ((0:Int)≤a0.C∧(a0.C:Int) < 2)
        (.guard ((0:Int)≤1∧(1:Int) < 2)
        (.guard ((0:Int)≤a0.C∧(a0.C:Int) < 2)
        (.ite (false)
         (.leaf ((⟨0,0⟩:Reply),{ a1 with p:={ a1.p with Links:={ a1.p.Links with SHeight:=(a1.p.Links.SHeight.set a0.C (a1.heads.CHeight.get a0.C)),STime:=(a1.p.Links.STime.set a0.C (a1.heads.CTime.get a0.C)),SSaid:=(a1.p.Links.SSaid.set a0.C (a1.heads.CSaid.get a0.C)),SGot:=(a1.p.Links.SGot.set a0.C (a1.heads.CGot.get a0.C)) } } }))
         (.leaf ((⟨0,0⟩:Reply),{ a1 with p:={ a1.p with Links:={ a1.p.Links with SHeight:=(a1.p.Links.SHeight.set a0.C (a1.heads.CHeight.get a0.C)),STime:=(a1.p.Links.STime.set a0.C (a1.heads.CTime.get a0.C)),SSaid:=(a1.p.Links.SSaid.set a0.C (a1.heads.CSaid.get a0.C)),SGot:=(a1.p.Links.SGot.set a0.C (a1.heads.CGot.get a0.C)) } },consumers:=(zkf a1.consumers a0.C (zb a1.consumers a0.C)) }))))))
        (.guard ((0:Int)≤a0.C∧(a0.C:Int) < 2)
        (.guard ((0:Int)≤0∧(0:Int) < 2)
        (.ite (false)
         (.leaf ((⟨0,0⟩:Reply),a1))
         (.leaf ((⟨0,0⟩:Reply),{ a1 with consumers:=(zkf a1.consumers a0.C ({ ((zb a1.consumers a0.C):Consumer) with Seen:=(⟨a1.heads.PHeight.get a0.C,a1.heads.PTime.get a0.C,a1.heads.PSaid.get a0.C,a1.heads.PGot.get a0.C⟩:Head) })) }))))))
       (.ite (a0.Kind==9)
        (.bind (zfv a0 a1) fun v1 =>
        (.leaf (v1.1,v1.2)))
        (.ite (a0.Kind==10)
         (.bind (zgf a0 a1) fun v2 =>
         (.leaf (v2.1,v2.2)))
         (.ite (a0.Kind==11)
          (.guard ((zdu (zb a1.consumers a0.C) a0.V a1.clock).isSome=true)
          (.ite (((zdu (zb a1.consumers a0.C) a0.V a1.clock).getD default).2 != 0)
           (.leaf ((⟨((zdu (zb a1.consumers a0.C) a0.V a1.clock).getD default).2,0⟩:Reply),a1))
           (.leaf ((⟨0,0⟩:Reply),{ a1 with consumers:=(zkf a1.consumers a0.C ((zdu (zb a1.consumers a0.C) a0.V a1.clock).getD default).1) }))))
          (.ite (a0.Kind==12)
           (.guard ((zco (zb a1.consumers a0.C) a0.V a0.N a1.clock).isSome=true)
           (.ite (((zco (zb a1.consumers a0.C) a0.V a0.N a1.clock).getD default).2 != 0)
            (.leaf ((⟨((zco (zb a1.consumers a0.C) a0.V a0.N a1.clock).getD default).2,0⟩:Reply),a1))
            (.leaf ((⟨0,0⟩:Reply),{ a1 with consumers:=(zkf a1.consumers a0.C ((zco (zb a1.consumers a0.C) a0.V a0.N a1.clock).getD default).1) }))))
           (.ite (false)
            (.leaf ((⟨0,0⟩:Reply),a1))
            (.leaf ((⟨0,0⟩:Reply),{ a1 with consumers:=(zkf a1.consumers a0.C (zb a1.consumers a0.C)) }))))))))))))))
def zfw (a0:Deed) (a1:Wld):=(zgg a0 a1).run
def zla:SpecT:=zt 1 (LQ.kp 0 0 (LQ.v (Par.ofLP deedL) (LP.q zn6))) 2 [.cells 99 159] (u2 zgg) default (LQ.v (Par.ofLP zyl) (LP.q zn6)) 1 [.cells 99 159]
theorem zr3:zf Tryz.prog 35 (zla).spec :=
 sK (A:=⟨[],[],[],[[0,3,4],[0,3,4,17],[4],[0,3,4,26],[4],[0,3,4,5],[0,3,4,5,43],[4],[0,3,4,5,6],[0,3,4,5,6,7],[0,3,4,5,6,7,49],[0,3,4,5,6,7,49,50],[0,3,4,5,8,9],[0,3,4,5,8,9,63],[4],[0,3,4,8],[4,8],[4],[0,3,4,5,6,7,49,91],[0,3,4,5,6,7],[0,3,4,5,6,7,103],[4,5,6,7],[0,3,4,5,6,7,49,130],[0,3,4,5,6,7,133],[4,5,6,7],[4,5,6,7],[0,3,4,5,6,7,49,159],[4],[0,3,4,5,6,7,49,164],[4],[0,3,4,5,6,7,49,169],[4,5,6,7],[0,3,4,5,6,7,182],[4,5,6,7],[4,5,6,7,198],[4],[4],[4]],[]⟩) zaz0 fM Tryz.func35 (c:=(fb Tryz.f35)) (by kernel_rfl) (Lc:=1) trivial _ _ 7 _ _ _ _ _ _ [.pubN 0] (by rintro ⟨a0,a1⟩;kernel_rfl)
noncomputable def zaz1:EnvT:=⟨Tryz.prog,zad [(30,znl),(31,zk6),(32,zul),(33,znn),(34,zk8),(35,zla)]⟩
theorem zaz2:(zaz1).Ok:=ze ⟨zt4,zr0,z04,zt5,zr1,zr3,trivial⟩
def zlu (a0:Deed) (a1:Wld): Tr (Reply×Wld) :=
 (.ite (decide (a1.deeds≥600))
  (.leaf ((⟨6,0⟩:Reply),a1))
  (.ite (a0.Kind==1)
   (.bind (zg2 a1.p a0.D a0.V a0.N) fun v1 =>
   (.ite (v1.2 != 0)
    (.leaf ((⟨v1.2,0⟩:Reply),{ a1 with deeds:=i64.wrap (a1.deeds+1) }))
    (.leaf ((⟨0,0⟩:Reply),{ a1 with p:=v1.1,deeds:=i64.wrap (a1.deeds+1) }))))
   (.ite (a0.Kind==2)
    (.guard ((za4 a1.p a0.D a0.V a0.N a1.clock).isSome=true)
    (.ite (((za4 a1.p a0.D a0.V a0.N a1.clock).getD default).2 != 0)
     (.leaf ((⟨((za4 a1.p a0.D a0.V a0.N a1.clock).getD default).2,0⟩:Reply),{ a1 with deeds:=i64.wrap (a1.deeds+1) }))
     (.leaf ((⟨0,0⟩:Reply),{ a1 with p:=((za4 a1.p a0.D a0.V a0.N a1.clock).getD default).1,deeds:=i64.wrap (a1.deeds+1) }))))
    (.ite (a0.Kind==3)
     (.bind (zna a1.p.Stake a0.V) fun v2 =>
     (.ite (v2.2 != 0)
      (.leaf ((⟨v2.2,0⟩:Reply),{ a1 with deeds:=i64.wrap (a1.deeds+1) }))
      (.leaf ((⟨0,0⟩:Reply),{ a1 with p:={ a1.p with Stake:=v2.1 },deeds:=i64.wrap (a1.deeds+1) }))))
     (.ite (a0.Kind==13)
      (.bind (zg4 a1.p a0.V a0.N) fun v3 =>
      (.ite (v3.2 != 0)
       (.leaf ((⟨v3.2,0⟩:Reply),{ a1 with deeds:=i64.wrap (a1.deeds+1) }))
       (.leaf ((⟨0,0⟩:Reply),{ a1 with p:=v3.1,deeds:=i64.wrap (a1.deeds+1) }))))
      (.ite (a0.Kind==5)
       (.ite ((decide (a0.N < 1))||(decide (a0.N > (i64.wrap (1099511627736 - a1.clock)))))
        (.leaf ((⟨2,0⟩:Reply),{ a1 with deeds:=i64.wrap (a1.deeds+1) }))
        (.leaf ((⟨0,i64.wrap (a1.clock+a0.N)⟩:Reply),{ a1 with clock:=i64.wrap (a1.clock+a0.N),deeds:=i64.wrap (a1.deeds+1) })))
       (.ite (a0.Kind==6)
        (.bind (zfu ({ a1 with deeds:=i64.wrap (a1.deeds+1) })) fun v4 =>
        (.leaf (v4.1,v4.2)))
        (.bind (zfw a0 ({ a1 with deeds:=i64.wrap (a1.deeds+1) })) fun v5 =>
        (.leaf (v5.1,v5.2))))))))))
def zb8 (a0:Deed) (a1:Wld):=(zlu a0 a1).run
def zlv:SpecT:=zt 1 (LQ.kp 0 0 (LQ.v (Par.ofLP deedL) (LP.q zn6))) 2 [.cells 99 159] (u2 zlu) default (LQ.v (Par.ofLP zyl) (LP.q zn6)) 1 [.cells 99 159]
theorem zp6:zf Tryz.prog 17 (zlv).spec :=
 sK (A:=⟨[],[],[[1,0,0,1]],[[0,3,4],[0,3,4,7],[4],[0,3,4,11],[4],[0,3,4],[0,3,4],[0,3,4,6],[0,3,4,6,30],[4],[0,3,4,6,30,34],[0,4,5,6],[0,3,4,6,30,47],[0,4,5,6],[0,3,4,6,30,64],[0,4,5,6],[0,3,4,6,30,75],[0,4,5,6],[0,3,4,30,86],[0,3,4,100],[4],[0,4],[4],[0,3,4,116],[4],[0,4,5,6,121],[4],[4],[4]],[]⟩) zaz2 fM Tryz.func17 (c:=(fb Tryz.f17)) (by kernel_rfl) (Lc:=1) trivial _ _ 6 _ _ _ _ _ _ [.pubN 0] (by rintro ⟨a0,a1⟩;kernel_rfl)
end
