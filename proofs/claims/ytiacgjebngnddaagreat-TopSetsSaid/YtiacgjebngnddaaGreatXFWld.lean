/-
  The functions, each by its tree.
-/
import Derived.Test.YtiacgjebngnddaaGreatXAbC
import Derived.Test.YtiacgjebngnddaaGreatXFBank
import Derived.Test.YtiacgjebngnddaaGreatXFCodec
import Derived.Test.YtiacgjebngnddaaGreatXFCons
import Derived.Test.YtiacgjebngnddaaGreatXFLine
import Derived.Test.YtiacgjebngnddaaGreatXFProv
import Derived.Test.YtiacgjebngnddaaGreatXFRatio
import Derived.Test.YtiacgjebngnddaaGreatXFStakeA
import Derived.Test.YtiacgjebngnddaaGreatXFStakeB
import Derived.Test.YtiacgjebngnddaaGreatXFacts
namespace Go.Proofs.YtiacgjebngnddaaGreat.Ab
open Go Go.RowKit
open Go.IntKind (i64 u64)
set_option maxRecDepth 100000
set_option linter.unusedVariables false
set_option linter.unusedSimpArgs false
noncomputable section
noncomputable def zaxl:EnvT:=⟨Tryz.prog,zac [(36,zt4)]⟩
theorem zaxm:(zaxl).Ok:=zf ⟨z0i,trivial⟩
def zu6  : Tr (Wld) :=
 (.bind (zmy) fun v1 =>
 (.leaf (⟨0,v1,(default:zb7),(default:zti),0⟩:Wld)))
def zn3  := (zu6 ).run
def zu7:SpecT:=zr 0 LQ.nil 0 [] (fun s=>zu6 ) default (LQ.kp 0 0 (LP.q zsz)) 1 [.cells 99 159]
theorem zya:zg Tryz.prog 19 (zu7).spec :=
 sK (A:=⟨[],[],[],[[],[0]],[]⟩) zaxm fM Tryz.func19 (c:=(fb Tryz.f19)) (by kernel_rfl) (Lc:=0) trivial _ _ 3 _ _ _ _ _ _ [.pubB 0] (by rintro _;kernel_rfl)
def zhx (a0:Wld): Tr (Int×Wld) :=
 (.leaf (a0.clock,a0))
def zgt (a0:Wld):=(zhx a0).run
def zm8:SpecT:=zr 1 (LQ.kp 0 0 (LP.q zsz)) 1 [.cells 99 159] zhx default (LQ.v intP (LP.q zsz)) 1 [.cells 99 159]
theorem ztn:zg Tryz.prog 38 (zm8).spec :=
 sK (A:=⟨[],[],[[1,0,1]],[[0],[0,4],[2],[2]],[]⟩) zhN fM Tryz.func38 (c:=(fb Tryz.f38)) (by kernel_rfl) (Lc:=1) trivial _ _ 3 _ _ _ _ _ _ [.pubN 0] (by rintro a0;kernel_rfl)
def zo0 (a0:(List Power)): Tr ((List Power)) :=
 (.guard ((0+Sl.len (.powers a0))*16≤140737488355328)
 (.leaf a0))
def zbn (a0:(List Power)):=(zo0 a0).run
def zkb:SpecT:=zr 0 (Par.q zn) 1 [] zo0 default (Par.q zn) 1 []
theorem zm9:zg Tryz.prog 24 (zkb).spec :=
 sK (A:=⟨[],[],[],[[0],[2]],[]⟩) zhN fM Tryz.func24 (c:=(fb Tryz.f24)) (by kernel_rfl) (Lc:=0) trivial _ _ 3 _ _ _ _ _ _ [.pub 2] (by rintro a0;kernel_rfl)
def zna (a0:(List Int)): Tr ((List Int)) :=
 (.guard ((0+Sl.len (.ints a0))*8≤140737488355328)
 (.leaf a0))
def zbu (a0:(List Int)):=(zna a0).run
def zi3:SpecT:=zr 0 (Par.q zfw) 1 [] zna default (Par.q zfw) 1 []
theorem zlc:zg Tryz.prog 25 (zi3).spec :=
 sK (A:=⟨[],[],[],[[0],[2]],[]⟩) zhN fM Tryz.func25 (c:=(fb Tryz.f25)) (by kernel_rfl) (Lc:=0) trivial _ _ 3 _ _ _ _ _ _ [.pub 2] (by rintro a0;kernel_rfl)
noncomputable def zaxn:EnvT:=⟨Tryz.prog,zac [(24,zkb),(25,zi3)]⟩
theorem zaxo:(zaxn).Ok:=zf ⟨zm9,zlc,trivial⟩
def zo1 (a0:Packet): Tr (Packet) :=
 (.guard ((zbn a0.Set).isSome=true)
 (.guard ((zbu a0.Done).isSome=true)
 (.leaf ({ a0 with Set:=((zbn a0.Set).getD default),Done:=((zbu a0.Done).getD default) }))))
def zen (a0:Packet):=(zo1 a0).run
def zo2:SpecT:=zr 0 (Par.q (Par.ofLP zje)) 1 [] zo1 default (Par.q (Par.ofLP zje)) 1 []
theorem zsj:zg Tryz.prog 27 (zo2).spec :=
 sK (A:=⟨[],[],[],[[1,2],[1,2],[2]],[]⟩) zaxo fM Tryz.func27 (c:=(fb Tryz.f27)) (by kernel_rfl) (Lc:=0) trivial _ _ 4 _ _ _ _ _ _ [.pubB 2] (by rintro a0;kernel_rfl)
noncomputable def zaxp:EnvT:=⟨Tryz.prog,zac [(25,zi3)]⟩
theorem zaxq:(zaxp).Ok:=zf ⟨zlc,trivial⟩
def znb (a0:zid): Tr (zid) :=
 (.guard ((0+Sl.len (.strs a0.Said))*16≤140737488355328)
 (.guard ((zbu a0.Due).isSome=true)
 (.leaf ({ a0 with Due:=((zbu a0.Due).getD default) }))))
def zbd (a0:zid):=(znb a0).run
def znc:SpecT:=zr 0 (Par.q (Par.ofLP lineL)) 1 [] znb default (Par.q (Par.ofLP lineL)) 1 []
theorem zrc:zg Tryz.prog 26 (znc).spec :=
 sK (A:=⟨[],[],[],[[1,2],[1,2],[2]],[]⟩) zaxq fM Tryz.func26 (c:=(fb Tryz.f26)) (by kernel_rfl) (Lc:=0) trivial _ _ 5 _ _ _ _ _ _ [.pubB 2] (by rintro a0;kernel_rfl)
def zanf:List (List Nat):=[[0,2],[0,2,10],[2],[2,3],[2,3],[2,3],[2,3,26],[2,3,26,27],[2,3,4,26],[2,3,5,26],[2,3,26],[2,3,26],[2,3,6],[2,3,6,58,59,60],[2,3,6,58,59,60,61],[2,3,6,8,58,59,60],[2,3,6,58,59,60],[2,3,6,58,59,60],[2,3],[2]]
noncomputable def zang:EnvT:=⟨Tryz.prog,zac [(24,zkb),(25,zi3),(26,znc),(27,zo2)]⟩
theorem zanh:(zang).Ok:=zf ⟨zm9,zlc,zrc,zsj,trivial⟩
def zao (x0:Int) (x1:Wld) (x2 x3:za): Tr ((Int×Wld×za×za)⊕(Wld×za×za)) :=
 (.ite (decide (x0 < 2))
  (.guard ((0:Int)≤x0∧(x0:Int) < 2)
  (.guard ((zbn (x3.Links.Told.get x0)).isSome=true)
  (.guard ((zbu (x3.Links.Done.get x0)).isSome=true)
  (.guard ((zbd (ze x3.Links x0).Out).isSome=true)
  (.leaf (.inl (i64.wrap (x0+1),x1,x2,{ x3 with Links:={ x3.Links with Told:=(x3.Links.Told.set x0 ((zbn (x3.Links.Told.get x0)).getD default)),Done:=(x3.Links.Done.set x0 ((zbu (x3.Links.Done.get x0)).getD default)),Said:=(x3.Links.Said.set x0 ((zbd (ze x3.Links x0).Out).getD default).Said),Due:=(x3.Links.Due.set x0 ((zbd (ze x3.Links x0).Out).getD default).Due),Got:=(x3.Links.Got.set x0 ((zbd (ze x3.Links x0).Out).getD default).Got),Closed:=(x3.Links.Closed.set x0 ((zbd (ze x3.Links x0).Out).getD default).Closed) } })))))))
  (.leaf (.inr (x1,x2,x3))))
def zdg (x0:Int) (x1:Wld) (x2 x3:za):=zd3 (fun s:Int×Wld×za×za=>(zao s.1 s.2.1 s.2.2.1 s.2.2.2).run) (x0,x1,x2,x3)
def zaqv:Ann:=⟨[],[],[],zanf,[]⟩
def zaqw:=EndD.mk (LQ.map (LQ.kp 1 0 (LQ.kp 2 0 (LQ.v intP (LQ.seq (LP.q zsz) (LQ.seq (LP.q providerL) (LQ.v intP (LQ.v intP (LQ.seq (LP.q bankL) (LQ.seq (LP.q validatorsL) (LQ.seq (LP.q (a4L (a6L (LP.one intP)))) (LQ.k (LQ.c (.own 3)) (LQ.v intP (LQ.v zn (LQ.seq (LP.q linksL) (LQ.seq (LP.q meterL) (LQ.v zd7 (Par.q zkg))))))))))))))))) (fun x=>(x.1,x.2.1,x.2.2.1,(⟨x.2.2.2.1,(d4 x).1,(⟨(d4 x).2.1,(d4 x).2.2.1,(d4 x).2.2.2.1,(d12 x).2,(d8 x).1⟩:Stake),(d8 x).2.1,(d8 x).2.2.1,(d8 x).2.2.2.1,(d12 x).1⟩:za))) (fun y=>(y.1,y.2.1,y.2.2.1,y.2.2.2.Height,y.2.2.2.Time,y.2.2.2.Stake.Bank,y.2.2.2.Stake.Validators,y.2.2.2.Stake.Shares,y.2.2.2.Stake.Next,y.2.2.2.Set,y.2.2.2.Links,y.2.2.2.Meter,y.2.2.2.Queue,y.2.2.2.Stake.Waits)) (fun _=>rfl)) ⟨[2,3,26],[.nilcell 3 63 78 (.waits [])]⟩ [.cells 99 159,.cells 58 97,.cells 58 97,.rows 78]
def zaid:=EndD.mk (LQ.map (LQ.kp 1 0 (LQ.kp 2 0 (LQ.seq (LP.q zsz) (LQ.seq (LP.q providerL) (LQ.v intP (LQ.v intP (LQ.seq (LP.q bankL) (LQ.seq (LP.q validatorsL) (LQ.seq (LP.q (a4L (a6L (LP.one intP)))) (LQ.k (LQ.c (.own 3)) (LQ.v intP (LQ.v zn (LQ.seq (LP.q linksL) (LQ.seq (LP.q meterL) (LQ.v zd7 (Par.q zkg)))))))))))))))) (fun x=>(x.1,x.2.1,(⟨x.2.2.1,x.2.2.2.1,(⟨(d4 x).1,(d4 x).2.1,(d4 x).2.2.1,(d12 x),(d4 x).2.2.2.1⟩:Stake),(d8 x).1,(d8 x).2.1,(d8 x).2.2.1,(d8 x).2.2.2.1⟩:za))) (fun y=>(y.1,y.2.1,y.2.2.Height,y.2.2.Time,y.2.2.Stake.Bank,y.2.2.Stake.Validators,y.2.2.Stake.Shares,y.2.2.Stake.Next,y.2.2.Set,y.2.2.Links,y.2.2.Meter,y.2.2.Queue,y.2.2.Stake.Waits)) (fun _=>rfl)) ⟨[2,3],[.nilcell 3 63 78 (.waits [])]⟩ [.cells 99 159,.cells 58 97,.cells 58 97,.rows 78]
def zaku:St→Option LR:=L1 77 10 1 zaqw (.exit 0) zaid (u4 zao)
def zs107a:=sub (fb Tryz.f10) [0,1,0,1,1,1,1,1]
theorem zaqx:zt (zang).env 1 zs107a zaku :=
 zhm (A:=zaqv) zanh fM trivial (k:=zch zs107a) (by kernel_rfl) rfl (by rintro ⟨x0,x1,x2,x3⟩;kernel_rfl)
def za9 (x0:(List Asked)) (x1 x2:Int) (x3:Wld) (x4 x5:za) (x6:(List Asked)): Tr (((List Asked)×Int×Int×Wld×za×za×(List Asked))⊕(Wld×za×za×(List Asked))) :=
 (.ite (decide (x2 < x1))
  (.guard ((0:Int)≤x2∧x2 < ((Sl.len (.asked x0):Nat):Int))
  (.guard ((zen (x0.getD x2.toNat default).P).isSome=true)
  (.guard ((Sl.len (.asked x6)+Sl.len (.asked [(⟨(x0.getD x2.toNat default).C,((zen (x0.getD x2.toNat default).P).getD default)⟩:Asked)]))*88≤140737488355328)
  (.leaf (.inl (x0,x1,i64.wrap (x2+1),x3,x4,x5,x6++[(⟨(x0.getD x2.toNat default).C,((zen (x0.getD x2.toNat default).P).getD default)⟩:Asked)]))))))
  (.leaf (.inr (x3,x4,x5,x6))))
def zdh (x0:(List Asked)) (x1 x2:Int) (x3:Wld) (x4 x5:za) (x6:(List Asked)):=zd3 (fun s:(List Asked)×Int×Int×Wld×za×za×(List Asked)=>(za9 s.1 s.2.1 s.2.2.1 s.2.2.2.1 s.2.2.2.2.1 s.2.2.2.2.2.1 s.2.2.2.2.2.2).run) (x0,x1,x2,x3,x4,x5,x6)
def zaqy:Ann:=⟨[],[],[],zanf,[]⟩
def zaqz:=EndD.mk (LQ.map (LQ.kp 1 0 (LQ.kp 2 0 (LQ.k (LQ.c (.own 3)) (LQ.v zd7 (LQ.v intP (LQ.v intP (LQ.seq (LP.q zsz) (LQ.seq (LP.q providerL) (LQ.v intP (LQ.v intP (LQ.seq (LP.q bankL) (LQ.seq (LP.q validatorsL) (LQ.seq (LP.q (a4L (a6L (LP.one intP)))) (LQ.k (LQ.c (.own 4)) (LQ.v intP (LQ.v zn (LQ.seq (LP.q linksL) (LQ.seq (LP.q meterL) (LQ.v zd7 (LQ.v zd7 (Par.q zkg))))))))))))))))))))) (fun x=>(x.1,x.2.1,x.2.2.1,x.2.2.2.1,(d4 x).1,(⟨(d4 x).2.1,(d4 x).2.2.1,(⟨(d4 x).2.2.2.1,(d8 x).1,(d8 x).2.1,(d16 x),(d8 x).2.2.1⟩:Stake),(d8 x).2.2.2.1,(d12 x).1,(d12 x).2.1,(d12 x).2.2.1⟩:za),(d12 x).2.2.2.1)) (fun y=>(y.1,y.2.1,y.2.2.1,y.2.2.2.1,(d4 y).1,(d4 y).2.1.Height,(d4 y).2.1.Time,(d4 y).2.1.Stake.Bank,(d4 y).2.1.Stake.Validators,(d4 y).2.1.Stake.Shares,(d4 y).2.1.Stake.Next,(d4 y).2.1.Set,(d4 y).2.1.Links,(d4 y).2.1.Meter,(d4 y).2.1.Queue,(d4 y).2.2,(d4 y).2.1.Stake.Waits)) (fun _=>rfl)) ⟨[2,3,6,58,59,60],[.nilcell 3 63 78 (.waits []),.nilown 6 90 (.asked []),.pub 58,.nilsl 58 (.asked [])]⟩ [.cells 99 159,.cells 58 97,.cells 58 97,.rows 90,.rows 78]
def zaie:=EndD.mk (LQ.map (LQ.kp 1 0 (LQ.kp 2 0 (LQ.k (LQ.c (.own 3)) (LQ.seq (LP.q zsz) (LQ.seq (LP.q providerL) (LQ.v intP (LQ.v intP (LQ.seq (LP.q bankL) (LQ.seq (LP.q validatorsL) (LQ.seq (LP.q (a4L (a6L (LP.one intP)))) (LQ.k (LQ.c (.own 4)) (LQ.v intP (LQ.v zn (LQ.seq (LP.q linksL) (LQ.seq (LP.q meterL) (LQ.v zd7 (LQ.v zd7 (Par.q zkg)))))))))))))))))) (fun x=>(x.1,x.2.1,(⟨x.2.2.1,x.2.2.2.1,(⟨(d4 x).1,(d4 x).2.1,(d4 x).2.2.1,(d12 x).2,(d4 x).2.2.2.1⟩:Stake),(d8 x).1,(d8 x).2.1,(d8 x).2.2.1,(d8 x).2.2.2.1⟩:za),(d12 x).1)) (fun y=>(y.1,y.2.1,y.2.2.1.Height,y.2.2.1.Time,y.2.2.1.Stake.Bank,y.2.2.1.Stake.Validators,y.2.2.1.Stake.Shares,y.2.2.1.Stake.Next,y.2.2.1.Set,y.2.2.1.Links,y.2.2.1.Meter,y.2.2.1.Queue,y.2.2.2,y.2.2.1.Stake.Waits)) (fun _=>rfl)) ⟨[2,3,6],[.nilcell 3 63 78 (.waits []),.nilown 6 90 (.asked [])]⟩ [.cells 99 159,.cells 58 97,.cells 58 97,.rows 90,.rows 78]
def zakv:St→Option LR:=L1 77 10 1 zaqz (.exit 2) zaie (u7 za9)
def zs107b:=sub (fb Tryz.f10) [0,1,0,1,1,1,1,1,1,1]
theorem zaq0:zt (zang).env 1 zs107b zakv :=
 zhm (A:=zaqy) zanh fM trivial (k:=zch zs107b) (by kernel_rfl) rfl (by rintro ⟨x0,x1,x2,x3,x4,x5,x6⟩;kernel_rfl)
def zfj (a0:Wld): Tr (za×Wld) :=
 (.guard ((0+Sl.len (.waits a0.p.Stake.Waits))*64≤140737488355328)
 (.bind (zbn a0.p.Set) fun v1 =>
 (.bind (zdg 0 a0 (default:za) ({ a0.p with Set:=v1 })) fun v2 =>
 (.bind (zdh v2.2.2.Queue ((v2.2.2.Queue.length:Nat):Int) 0 v2.1 v2.2.1 v2.2.2 []) fun v3 =>
 (.leaf ({ v3.2.2.1 with Queue:=v3.2.2.2 },v3.1))))))
def zcs (a0:Wld):=(zfj a0).run
def zjc:SpecT:=zr 1 (LQ.kp 0 0 (LP.q zsz)) 1 [.cells 99 159] zfj default (LQ.v (Par.ofLP providerL) (LP.q zsz)) 1 [.cells 99 159]
theorem zqs:zg Tryz.prog 10 (zjc).spec :=
 sK (A:=⟨[([0,1,0,1,1,1,1,1],zaku),([0,1,0,1,1,1,1,1,1,1],zakv)],[],[[1,0,1]],zanf,[]⟩) zanh fM Tryz.func10 (c:=(fb Tryz.f10)) (by kernel_rfl) (Lc:=1) ⟨zaqx,zaq0,trivial⟩ _ _ 10 _ _ _ _ _ _ [.pubN 0,.pubB 2] (by rintro a0;kernel_rfl)
def zaq1:List (List Nat):=[[0,1,4],[0,1,4,18],[4],[4,5],[4,5],[4,5,6],[4,5,6,39,40,41],[4,5,6,39,40,41,42],[4,5,6,8,39,40,41],[4,5,6,39,40,41],[4,5,6,39,40,41],[4,5],[4]]
noncomputable def zaq2:EnvT:=⟨Tryz.prog,zac [(24,zkb),(26,znc),(27,zo2)]⟩
theorem zaq3:(zaq2).Ok:=zf ⟨zm9,zrc,zsj,trivial⟩
def zba (x0:(List Packet)) (x1 x2:Int) (x3:Wld) (x4 x5:zc) (x6:(List Packet)): Tr (((List Packet)×Int×Int×Wld×zc×zc×(List Packet))⊕(Wld×zc×zc×(List Packet))) :=
 (.ite (decide (x2 < x1))
  (.guard ((0:Int)≤x2∧x2 < ((Sl.len (.packets x0):Nat):Int))
  (.bind (zen (x0.getD x2.toNat default)) fun v1 =>
  (.guard ((Sl.len (.packets x6)+Sl.len (.packets [v1]))*80≤140737488355328)
  (.leaf (.inl (x0,x1,i64.wrap (x2+1),x3,x4,x5,x6++[v1]))))))
  (.leaf (.inr (x3,x4,x5,x6))))
def zdi (x0:(List Packet)) (x1 x2:Int) (x3:Wld) (x4 x5:zc) (x6:(List Packet)):=zd3 (fun s:(List Packet)×Int×Int×Wld×zc×zc×(List Packet)=>(zba s.1 s.2.1 s.2.2.1 s.2.2.2.1 s.2.2.2.2.1 s.2.2.2.2.2.1 s.2.2.2.2.2.2).run) (x0,x1,x2,x3,x4,x5,x6)
def zaq4:Ann:=⟨[],[],[],zaq1,[]⟩
def zaq5:=EndD.mk (LQ.map (LQ.kp 1 0 (LQ.kp 2 0 (LQ.k (LQ.c (.own 3)) (LQ.v zc7 (LQ.v intP (LQ.v intP (LQ.seq (LP.q zsz) (LQ.seq (LP.q z6) (LQ.v boolP (LQ.v boolP (LQ.v intP (LQ.v intP (LQ.v intP (LQ.v zn (LQ.v zc7 (LQ.k (LQ.c (.own 4)) (LQ.seq (LP.q (a6L (LP.one boolP))) (LQ.seq (LP.q lineL) (LQ.seq (LP.q z3l) (LQ.v zc7 (Par.q ztt))))))))))))))))))))) (fun x=>(x.1,x.2.1,x.2.2.1,x.2.2.2.1,(d4 x).1,(⟨(d4 x).2.1,(d4 x).2.2.1,(d4 x).2.2.2.1,(d8 x).1,(d8 x).2.1,(d8 x).2.2.1,(d8 x).2.2.2.1,(d16 x),(d12 x).1,(d12 x).2.1,(d12 x).2.2.1⟩:zc),(d12 x).2.2.2.1)) (fun y=>(y.1,y.2.1,y.2.2.1,y.2.2.2.1,(d4 y).1,(d4 y).2.1.On,(d4 y).2.1.Gone,(d4 y).2.1.Height,(d4 y).2.1.Time,(d4 y).2.1.Id,(d4 y).2.1.Set,(d4 y).2.1.Pending,(d4 y).2.1.Flags,(d4 y).2.1.Out,(d4 y).2.1.Seen,(d4 y).2.2,(d4 y).2.1.Ripes)) (fun _=>rfl)) ⟨[4,5,6,39,40,41],[.nilcell 5 7 93 (.ripes []),.nilown 6 73 (.packets []),.pub 39,.nilsl 39 (.packets [])]⟩ [.cells 99 159,.cells 64 22,.cells 64 22,.rows 73,.rows 93]
def zaif:=EndD.mk (LQ.map (LQ.kp 1 0 (LQ.kp 2 0 (LQ.k (LQ.c (.own 3)) (LQ.seq (LP.q zsz) (LQ.seq (LP.q z6) (LQ.v boolP (LQ.v boolP (LQ.v intP (LQ.v intP (LQ.v intP (LQ.v zn (LQ.v zc7 (LQ.k (LQ.c (.own 4)) (LQ.seq (LP.q (a6L (LP.one boolP))) (LQ.seq (LP.q lineL) (LQ.seq (LP.q z3l) (LQ.v zc7 (Par.q ztt)))))))))))))))))) (fun x=>(x.1,x.2.1,(⟨x.2.2.1,x.2.2.2.1,(d4 x).1,(d4 x).2.1,(d4 x).2.2.1,(d4 x).2.2.2.1,(d8 x).1,(d12 x).2,(d8 x).2.1,(d8 x).2.2.1,(d8 x).2.2.2.1⟩:zc),(d12 x).1)) (fun y=>(y.1,y.2.1,y.2.2.1.On,y.2.2.1.Gone,y.2.2.1.Height,y.2.2.1.Time,y.2.2.1.Id,y.2.2.1.Set,y.2.2.1.Pending,y.2.2.1.Flags,y.2.2.1.Out,y.2.2.1.Seen,y.2.2.2,y.2.2.1.Ripes)) (fun _=>rfl)) ⟨[4,5,6],[.nilcell 5 7 93 (.ripes []),.nilown 6 73 (.packets [])]⟩ [.cells 99 159,.cells 64 22,.cells 64 22,.rows 73,.rows 93]
def zakw:St→Option LR:=L1 54 10 1 zaq5 (.exit 0) zaif (u7 zba)
def zs108a:=sub (fb Tryz.f11) [0,1,0,1,1,1,1,1]
theorem zaq6:zt (zaq2).env 1 zs108a zakw :=
 zhm (A:=zaq4) zaq3 fM trivial (k:=zch zs108a) (by kernel_rfl) rfl (by rintro ⟨x0,x1,x2,x3,x4,x5,x6⟩;kernel_rfl)
def zfk (a0:Int) (a1:Wld): Tr (zc×Wld) :=
 (.ite ((false||(decide (a0 < 0)))||(decide (a0≥2)))
  (.leaf ((default:zc),a1))
  (.guard ((0:Int)≤a0∧(a0:Int) < 2)
  (.guard ((zbn (a1.consumers.Set.get a0)).isSome=true)
  (.guard ((zbd (zb a1.consumers a0).Out).isSome=true)
  (.guard ((0+Sl.len (.ripes (a1.consumers.Ripes.get a0)))*16≤140737488355328)
  (.bind (zdi (a1.consumers.Pending.get a0) (((a1.consumers.Pending.get a0).length:Nat):Int) 0 a1 (default:zc) ({ ((zb a1.consumers a0):zc) with Set:=((zbn (a1.consumers.Set.get a0)).getD default),Out:=((zbd (zb a1.consumers a0).Out).getD default) }) []) fun v2 =>
  (.leaf ({ v2.2.2.1 with Pending:=v2.2.2.2 },v2.1))))))))
def za0 (a0:Int) (a1:Wld):=(zfk a0 a1).run
def zfl:SpecT:=zr 1 (LQ.kp 0 0 (LQ.v intP (LP.q zsz))) 2 [.cells 99 159] (u2 zfk) default (LQ.v (Par.ofLP z6) (LP.q zsz)) 1 [.cells 99 159]
theorem zi4:zg Tryz.prog 11 (zfl).spec :=
 sK (A:=⟨[([0,1,0,1,1,1,1,1],zakw)],[],[],zaq1,[]⟩) zaq3 fM Tryz.func11 (c:=(fb Tryz.f11)) (by kernel_rfl) (Lc:=1) ⟨zaq6,trivial⟩ _ _ 10 _ _ _ _ _ _ [.pubN 0,.pubB 4] (by rintro ⟨a0,a1⟩;kernel_rfl)
noncomputable def zaxr:EnvT:=⟨Tryz.prog,zac [(113,zj9)]⟩
theorem zaxs:(zaxr).Ok:=zf ⟨zmm,trivial⟩
def zsk (a0:zid) (a1:Bool): Tr (ByteArray) :=
 (.ite (decide (a0.Got < ((a0.Said.length:Nat):Int)))
  (.guard ((0:Int)≤a0.Got∧a0.Got < ((Sl.len (.strs a0.Said):Nat):Int))
  (.ite (!a1)
   (.leaf (a0.Said.getD a0.Got.toNat .empty))
   (.bind (za7 (⟨3,1,0,i64.wrap (1+(((a0.Said.getD a0.Got.toNat .empty).size:Nat):Int)),[],[]⟩:Packet)) fun v1 =>
   (.leaf v1.1))))
  (.ite (!a1)
   (.leaf (⟨#[]⟩:ByteArray))
   (.bind (za7 (⟨3,1,0,i64.wrap (1+(((⟨#[]⟩:ByteArray).size:Nat):Int)),[],[]⟩:Packet)) fun v2 =>
   (.leaf v2.1))))
def zl3 (a0:zid) (a1:Bool):=(zsk a0 a1).run
def zyb:SpecT:=zr 0 (LQ.v (Par.ofLP lineL) (Par.q boolP)) 2 [] (u2 zsk) default (Par.q strP) 1 []
theorem z4t:zg Tryz.prog 78 (zyb).spec :=
 sK (A:=⟨[],[],[],[[1,2],[1,2,5],[1,2,5,11],[1,5],[5,19],[4],[5],[4]],[]⟩) zaxs fM Tryz.func78 (c:=(fb Tryz.f78)) (by kernel_rfl) (Lc:=0) trivial _ _ 3 _ _ _ _ _ _ [] (by rintro ⟨a0,a1⟩;kernel_rfl)
def zaq7:List (List Nat):=[[0,2],[0,2,3,4,5],[0,2,3,4,5,21],[2],[0,2,3,4],[0,2,3,4,28],[0,2,3,4,28,29],[0,2,3,4,6,28],[0,2,3,4,28],[0,2,3,4,28],[2]]
noncomputable def zaq8:EnvT:=⟨Tryz.prog,zac [(46,zt7)]⟩
theorem zaq9:(zaq8).Ok:=zf ⟨z0l,trivial⟩
def zaw (x0:(List Int)) (x1:Int) (x2:Wld) (x3:Reply) (x4:za): Tr (((List Int)×Int×Wld×Reply×za)⊕((List Int)×Wld×Reply)) :=
 (.ite (decide (x1 < 2))
  (.guard ((0:Int)≤x1∧(x1:Int) < 2)
  (.guard ((0:Int)≤x1∧(x1:Int) < 2)
  (.guard ((0:Int)≤x1∧(x1:Int) < 2)
  (.guard ((0:Int)≤0∧(0:Int) < 2)
  (.leaf (.inl (x0,i64.wrap (x1+1),{ x2 with heads:={ x2.heads with PHeight:=(x2.heads.PHeight.set x1 x4.Height),PTime:=(x2.heads.PTime.set x1 x4.Time),PSaid:=(x2.heads.PSaid.set x1 (((x4.Links.Said.get x1).length:Nat):Int)),PGot:=(x2.heads.PGot.set x1 (x2.consumers.Got.get x1)) } },x3,x4)))))))
  (.leaf (.inr (x0,x2,x3))))
def zd1 (x0:(List Int)) (x1:Int) (x2:Wld) (x3:Reply) (x4:za):=zd3 (fun s:(List Int)×Int×Wld×Reply×za=>(zaw s.1 s.2.1 s.2.2.1 s.2.2.2.1 s.2.2.2.2).run) (x0,x1,x2,x3,x4)
def zara:Ann:=⟨[],[],[],zaq7,[]⟩
def zarb:=EndD.mk (LQ.kp 0 0 (LQ.kp 1 0 (LQ.kp 2 0 (LQ.v zfw (LQ.v intP (LQ.seq (LP.q zsz) (LQ.seq (LP.q zxx) (LP.q providerL)))))))) ⟨[0,2,3,4,28],[.pub 4,.nilsl 4 (.ints [])]⟩ [.cells 99 159,.cells 32 2,.cells 58 97]
def zaig:=EndD.mk (LQ.kp 1 0 (LQ.v zfw (LQ.seq (LP.q zsz) (LP.q zxx)))) ⟨[2,4],[.pub 4,.nilsl 4 (.ints [])]⟩ [.cells 99 159,.cells 32 2]
def zakx:St→Option LR:=L1 61 5 1 zarb (.exit 0) zaig (u5 zaw)
def zs110a:=sub (fb Tryz.f34) [0,1,0,1,1,1,1]
theorem zarc:zt (zaq8).env 1 zs110a zakx :=
 zhm (A:=zara) zaq9 fM trivial (k:=zch zs110a) (by kernel_rfl) rfl (by rintro ⟨x0,x1,x2,x3,x4⟩;kernel_rfl)
def zf4 (a0:Wld): Tr (Reply×Wld) :=
 (.guard ((zce a0.p a0.clock).isSome=true)
 (.ite (((zce a0.p a0.clock).getD default).2.2 != 0)
  (.leaf ((⟨((zce a0.p a0.clock).getD default).2.2,0⟩:Reply),a0))
  (.bind (zd1 ((zce a0.p a0.clock).getD default).2.1 0 ({ a0 with p:=((zce a0.p a0.clock).getD default).1 }) (⟨0,0⟩:Reply) ((zce a0.p a0.clock).getD default).1) fun v1 =>
  (.leaf ((⟨0,((v1.1.length:Nat):Int)⟩:Reply),v1.2.1)))))
def zfm (a0:Wld):=(zf4 a0).run
def zks:SpecT:=zr 1 (LQ.kp 0 0 (LP.q zsz)) 1 [.cells 99 159] zf4 default (LQ.v (Par.ofLP zxx) (LP.q zsz)) 1 [.cells 99 159]
theorem zrh:zg Tryz.prog 34 (zks).spec :=
 sK (A:=⟨[([0,1,0,1,1,1,1],zakx)],[],[],zaq7,[]⟩) zaq9 fM Tryz.func34 (c:=(fb Tryz.f34)) (by kernel_rfl) (Lc:=1) ⟨zarc,trivial⟩ _ _ 5 _ _ _ _ _ _ [.pubN 0] (by rintro a0;kernel_rfl)
noncomputable def zaxt:EnvT:=⟨Tryz.prog,zac [(78,zyb),(79,ztz),(80,zsf),(81,zsd)]⟩
theorem zaxu:(zaxt).Ok:=zf ⟨z4t,zz9,zym,zyk,trivial⟩
def zf5 (a0:Deed) (a1:Wld): Tr (Reply×Wld) :=
 (.guard ((0:Int)≤a0.C∧(a0.C:Int) < 2)
 (.guard ((0:Int)≤a0.C∧(a0.C:Int) < 2)
 (.ite (a0.Back)
  (.bind (zl3 (zb a1.consumers a0.C).Out a0.Forged) fun v1 =>
  (.guard ((zh (zb a1.consumers a0.C).Out (i64.wrap ((a1.consumers.Got.get a0.C)+1)) v1 (a1.p.Links.SSaid.get a0.C) a1.clock).isSome=true)
  (.ite (((zh (zb a1.consumers a0.C).Out (i64.wrap ((a1.consumers.Got.get a0.C)+1)) v1 (a1.p.Links.SSaid.get a0.C) a1.clock).getD default).2 != 0)
   (.leaf ((⟨((zh (zb a1.consumers a0.C).Out (i64.wrap ((a1.consumers.Got.get a0.C)+1)) v1 (a1.p.Links.SSaid.get a0.C) a1.clock).getD default).2,0⟩:Reply),a1))
   (.ite (a0.Back)
    (.guard ((zax a1.p a0.C v1).isSome=true)
    (.ite (((zax a1.p a0.C v1).getD default).2 != 0)
     (.leaf ((⟨((zax a1.p a0.C v1).getD default).2,0⟩:Reply),a1))
     (.leaf ((⟨0,((zh (zb a1.consumers a0.C).Out (i64.wrap ((a1.consumers.Got.get a0.C)+1)) v1 (a1.p.Links.SSaid.get a0.C) a1.clock).getD default).1.Got⟩:Reply),{ a1 with p:=((zax a1.p a0.C v1).getD default).1,consumers:={ a1.consumers with Said:=(a1.consumers.Said.set a0.C ((zh (zb a1.consumers a0.C).Out (i64.wrap ((a1.consumers.Got.get a0.C)+1)) v1 (a1.p.Links.SSaid.get a0.C) a1.clock).getD default).1.Said),Due:=(a1.consumers.Due.set a0.C ((zh (zb a1.consumers a0.C).Out (i64.wrap ((a1.consumers.Got.get a0.C)+1)) v1 (a1.p.Links.SSaid.get a0.C) a1.clock).getD default).1.Due),Got:=(a1.consumers.Got.set a0.C ((zh (zb a1.consumers a0.C).Out (i64.wrap ((a1.consumers.Got.get a0.C)+1)) v1 (a1.p.Links.SSaid.get a0.C) a1.clock).getD default).1.Got),Closed:=(a1.consumers.Closed.set a0.C ((zh (zb a1.consumers a0.C).Out (i64.wrap ((a1.consumers.Got.get a0.C)+1)) v1 (a1.p.Links.SSaid.get a0.C) a1.clock).getD default).1.Closed) } }))))
    (.bind (zhj (zb a1.consumers a0.C) v1) fun v2 =>
    (.ite (v2.2 != 0)
     (.leaf ((⟨v2.2,0⟩:Reply),a1))
     (.leaf ((⟨0,((zh (zb a1.consumers a0.C).Out (i64.wrap ((a1.consumers.Got.get a0.C)+1)) v1 (a1.p.Links.SSaid.get a0.C) a1.clock).getD default).1.Got⟩:Reply),{ a1 with p:={ a1.p with Links:={ a1.p.Links with Said:=(a1.p.Links.Said.set a0.C ((zh (zb a1.consumers a0.C).Out (i64.wrap ((a1.consumers.Got.get a0.C)+1)) v1 (a1.p.Links.SSaid.get a0.C) a1.clock).getD default).1.Said),Due:=(a1.p.Links.Due.set a0.C ((zh (zb a1.consumers a0.C).Out (i64.wrap ((a1.consumers.Got.get a0.C)+1)) v1 (a1.p.Links.SSaid.get a0.C) a1.clock).getD default).1.Due),Got:=(a1.p.Links.Got.set a0.C ((zh (zb a1.consumers a0.C).Out (i64.wrap ((a1.consumers.Got.get a0.C)+1)) v1 (a1.p.Links.SSaid.get a0.C) a1.clock).getD default).1.Got),Closed:=(a1.p.Links.Closed.set a0.C ((zh (zb a1.consumers a0.C).Out (i64.wrap ((a1.consumers.Got.get a0.C)+1)) v1 (a1.p.Links.SSaid.get a0.C) a1.clock).getD default).1.Closed) } },consumers:=(zk0 a1.consumers a0.C v2.1) }))))))))
  (.bind (zl3 (ze a1.p.Links a0.C).Out a0.Forged) fun v3 =>
  (.guard ((zh (ze a1.p.Links a0.C).Out (i64.wrap ((a1.p.Links.Got.get a0.C)+1)) v3 (a1.consumers.SSaid.get a0.C) a1.clock).isSome=true)
  (.ite (((zh (ze a1.p.Links a0.C).Out (i64.wrap ((a1.p.Links.Got.get a0.C)+1)) v3 (a1.consumers.SSaid.get a0.C) a1.clock).getD default).2 != 0)
   (.leaf ((⟨((zh (ze a1.p.Links a0.C).Out (i64.wrap ((a1.p.Links.Got.get a0.C)+1)) v3 (a1.consumers.SSaid.get a0.C) a1.clock).getD default).2,0⟩:Reply),a1))
   (.ite (a0.Back)
    (.guard ((zax a1.p a0.C v3).isSome=true)
    (.ite (((zax a1.p a0.C v3).getD default).2 != 0)
     (.leaf ((⟨((zax a1.p a0.C v3).getD default).2,0⟩:Reply),a1))
     (.leaf ((⟨0,((zh (ze a1.p.Links a0.C).Out (i64.wrap ((a1.p.Links.Got.get a0.C)+1)) v3 (a1.consumers.SSaid.get a0.C) a1.clock).getD default).1.Got⟩:Reply),{ a1 with p:=((zax a1.p a0.C v3).getD default).1,consumers:={ a1.consumers with Said:=(a1.consumers.Said.set a0.C ((zh (ze a1.p.Links a0.C).Out (i64.wrap ((a1.p.Links.Got.get a0.C)+1)) v3 (a1.consumers.SSaid.get a0.C) a1.clock).getD default).1.Said),Due:=(a1.consumers.Due.set a0.C ((zh (ze a1.p.Links a0.C).Out (i64.wrap ((a1.p.Links.Got.get a0.C)+1)) v3 (a1.consumers.SSaid.get a0.C) a1.clock).getD default).1.Due),Got:=(a1.consumers.Got.set a0.C ((zh (ze a1.p.Links a0.C).Out (i64.wrap ((a1.p.Links.Got.get a0.C)+1)) v3 (a1.consumers.SSaid.get a0.C) a1.clock).getD default).1.Got),Closed:=(a1.consumers.Closed.set a0.C ((zh (ze a1.p.Links a0.C).Out (i64.wrap ((a1.p.Links.Got.get a0.C)+1)) v3 (a1.consumers.SSaid.get a0.C) a1.clock).getD default).1.Closed) } }))))
    (.bind (zhj (zb a1.consumers a0.C) v3) fun v4 =>
    (.ite (v4.2 != 0)
     (.leaf ((⟨v4.2,0⟩:Reply),a1))
     (.leaf ((⟨0,((zh (ze a1.p.Links a0.C).Out (i64.wrap ((a1.p.Links.Got.get a0.C)+1)) v3 (a1.consumers.SSaid.get a0.C) a1.clock).getD default).1.Got⟩:Reply),{ a1 with p:={ a1.p with Links:={ a1.p.Links with Said:=(a1.p.Links.Said.set a0.C ((zh (ze a1.p.Links a0.C).Out (i64.wrap ((a1.p.Links.Got.get a0.C)+1)) v3 (a1.consumers.SSaid.get a0.C) a1.clock).getD default).1.Said),Due:=(a1.p.Links.Due.set a0.C ((zh (ze a1.p.Links a0.C).Out (i64.wrap ((a1.p.Links.Got.get a0.C)+1)) v3 (a1.consumers.SSaid.get a0.C) a1.clock).getD default).1.Due),Got:=(a1.p.Links.Got.set a0.C ((zh (ze a1.p.Links a0.C).Out (i64.wrap ((a1.p.Links.Got.get a0.C)+1)) v3 (a1.consumers.SSaid.get a0.C) a1.clock).getD default).1.Got),Closed:=(a1.p.Links.Closed.set a0.C ((zh (ze a1.p.Links a0.C).Out (i64.wrap ((a1.p.Links.Got.get a0.C)+1)) v3 (a1.consumers.SSaid.get a0.C) a1.clock).getD default).1.Closed) } },consumers:=(zk0 a1.consumers a0.C v4.1) })))))))))))
def zfn (a0:Deed) (a1:Wld):=(zf5 a0 a1).run
def zkt:SpecT:=zr 1 (LQ.kp 0 0 (LQ.v (Par.ofLP deedL) (LP.q zsz))) 2 [.cells 99 159] (u2 zf5) default (LQ.v (Par.ofLP zxx) (LP.q zsz)) 1 [.cells 99 159]
theorem zri:zg Tryz.prog 50 (zkt).spec :=
 sK (A:=⟨[],[],[],[[0,3,4],[0,3,4,5,6],[0,3,4,5,6,7,8],[0,3,4,5,6,7,8,37],[0,3,4,5,6,7,8],[0,3,4,5,6,7,8,9],[0,3,4,5,6,7,9,10],[0,3,4,5,6,7,9,10,66],[4],[0,3,4,5,6,7,9,70],[0,4,5,7,11,12],[0,4,5,7,11,12,83],[4],[4,7],[4],[4,5,6,7,10,13],[4,5,6,7,10,13,106],[4],[4,7],[4]],[]⟩) zaxu fM Tryz.func50 (c:=(fb Tryz.f50)) (by kernel_rfl) (Lc:=1) trivial _ _ 7 _ _ _ _ _ _ [.pubN 0] (by rintro ⟨a0,a1⟩;kernel_rfl)
noncomputable def zaxv:EnvT:=⟨Tryz.prog,zac [(82,zwg),(83,zpp),(84,zpn)]⟩
theorem zaxw:(zaxv).Ok:=zf ⟨z19,zwo,zwm,trivial⟩
def zgu (a0:Deed) (a1:Wld): Tr (Reply×Wld) :=
 (.guard ((0:Int)≤a0.C∧(a0.C:Int) < 2)
 (.guard ((0:Int)≤a0.C∧(a0.C:Int) < 2)
 (.ite (a0.Back)
  (.bind (zj7 (zb a1.consumers a0.C).Out a0.N (a1.consumers.STime.get a0.C) (a1.consumers.SGot.get a0.C)) fun v1 =>
  (.ite (v1.2 != 0)
   (.leaf ((⟨v1.2,0⟩:Reply),a1))
   (.guard ((zcm a1.p a0.C).isSome=true)
   (.bind (zfr (zb a1.consumers a0.C)) fun v2 =>
   (.leaf ((⟨0,0⟩:Reply),{ a1 with p:=((zcm a1.p a0.C).getD default),consumers:=(zk0 a1.consumers a0.C v2) }))))))
  (.bind (zj7 (ze a1.p.Links a0.C).Out a0.N (a1.p.Links.STime.get a0.C) (a1.p.Links.SGot.get a0.C)) fun v3 =>
  (.ite (v3.2 != 0)
   (.leaf ((⟨v3.2,0⟩:Reply),a1))
   (.guard ((zcm a1.p a0.C).isSome=true)
   (.bind (zfr (zb a1.consumers a0.C)) fun v4 =>
   (.leaf ((⟨0,0⟩:Reply),{ a1 with p:=((zcm a1.p a0.C).getD default),consumers:=(zk0 a1.consumers a0.C v4) })))))))))
def zf6 (a0:Deed) (a1:Wld):=(zgu a0 a1).run
def zll:SpecT:=zr 1 (LQ.kp 0 0 (LQ.v (Par.ofLP deedL) (LP.q zsz))) 2 [.cells 99 159] (u2 zgu) default (LQ.v (Par.ofLP zxx) (LP.q zsz)) 1 [.cells 99 159]
theorem zsl:zg Tryz.prog 51 (zll).spec :=
 sK (A:=⟨[],[],[],[[0,3,4],[0,3,4,5,6],[0,3,4,5,7,8],[0,3,4,5,7,8,33],[0,3,4,5,7,8],[0,3,4,5,10],[0,3,4,5,10,54],[4],[4,5],[4],[4]],[]⟩) zaxw fM Tryz.func51 (c:=(fb Tryz.f51)) (by kernel_rfl) (Lc:=1) trivial _ _ 8 _ _ _ _ _ _ [.pubN 0] (by rintro ⟨a0,a1⟩;kernel_rfl)
noncomputable def zaxx:EnvT:=⟨Tryz.prog,zac [(47,zrb),(48,zra),(49,zt3),(50,zkt),(51,zll),(52,zse),(53,zpm)]⟩
theorem zaxy:(zaxx).Ok:=zf ⟨zxh,zxg,z0h,zri,zsl,zyl,zwl,trivial⟩
def zf7 (a0:Deed) (a1:Wld): Tr (Reply×Wld) :=
 (.ite ((decide (a0.Kind < 4))||(decide (a0.Kind > 12)))
  (.leaf ((⟨3,0⟩:Reply),a1))
  (.ite ((decide (a0.C < 0))||(decide (a0.C≥2)))
   (.leaf ((⟨4,0⟩:Reply),a1))
   (.guard ((0:Int)≤a0.C∧(a0.C:Int) < 2)
   (.ite ((a0.Kind != 4)&&(!(a1.consumers.On.get a0.C)))
    (.leaf ((⟨4,0⟩:Reply),a1))
    (.ite (a0.Kind==4)
     (.guard ((zai a1.p a0.C).isSome=true)
     (.ite (((zai a1.p a0.C).getD default).2 != 0)
      (.leaf ((⟨((zai a1.p a0.C).getD default).2,0⟩:Reply),a1))
      (.guard ((zgh ((zai a1.p a0.C).getD default).1.Set ((zai a1.p a0.C).getD default).1.Height a1.clock).isSome=true)
      (.guard ((0:Int)≤a0.C∧(a0.C:Int) < 2)
      (.leaf ((⟨0,((zai a1.p a0.C).getD default).1.Height⟩:Reply),(⟨a1.clock,((zai a1.p a0.C).getD default).1,(zk0 a1.consumers a0.C ((zgh ((zai a1.p a0.C).getD default).1.Set ((zai a1.p a0.C).getD default).1.Height a1.clock).getD default)),(⟨(a1.heads.PHeight.set a0.C 0),(a1.heads.PTime.set a0.C 0),(a1.heads.PSaid.set a0.C 0),(a1.heads.PGot.set a0.C 0),(a1.heads.CHeight.set a0.C 0),(a1.heads.CTime.set a0.C 0),(a1.heads.CSaid.set a0.C 0),(a1.heads.CGot.set a0.C 0)⟩:zti),a1.deeds⟩:Wld)))))))
     (.ite (a0.Kind==7)
      (.guard ((zv (zb a1.consumers a0.C) a1.clock).isSome=true)
      (.ite (((zv (zb a1.consumers a0.C) a1.clock).getD default).2==0)
       (.guard ((0:Int)≤a0.C∧(a0.C:Int) < 2)
       (.guard ((0:Int)≤a0.C∧(a0.C:Int) < 2)
       (.guard ((0:Int)≤1∧(1:Int) < 2)
       (.ite (((zv (zb a1.consumers a0.C) a1.clock).getD default).2 != 0)
        (.leaf ((⟨((zv (zb a1.consumers a0.C) a1.clock).getD default).2,0⟩:Reply),{ a1 with heads:={ a1.heads with CHeight:=(a1.heads.CHeight.set a0.C ((zv (zb a1.consumers a0.C) a1.clock).getD default).1.Height),CTime:=(a1.heads.CTime.set a0.C ((zv (zb a1.consumers a0.C) a1.clock).getD default).1.Time),CSaid:=(a1.heads.CSaid.set a0.C ((((zv (zb a1.consumers a0.C) a1.clock).getD default).1.Out.Said.length:Nat):Int)),CGot:=(a1.heads.CGot.set a0.C (a1.p.Links.Got.get a0.C)) } }))
        (.leaf ((⟨0,0⟩:Reply),{ a1 with consumers:=(zk0 a1.consumers a0.C ((zv (zb a1.consumers a0.C) a1.clock).getD default).1),heads:={ a1.heads with CHeight:=(a1.heads.CHeight.set a0.C ((zv (zb a1.consumers a0.C) a1.clock).getD default).1.Height),CTime:=(a1.heads.CTime.set a0.C ((zv (zb a1.consumers a0.C) a1.clock).getD default).1.Time),CSaid:=(a1.heads.CSaid.set a0.C ((((zv (zb a1.consumers a0.C) a1.clock).getD default).1.Out.Said.length:Nat):Int)),CGot:=(a1.heads.CGot.set a0.C (a1.p.Links.Got.get a0.C)) } }))))))
       (.ite (((zv (zb a1.consumers a0.C) a1.clock).getD default).2 != 0)
        (.leaf ((⟨((zv (zb a1.consumers a0.C) a1.clock).getD default).2,0⟩:Reply),a1))
        (.leaf ((⟨0,0⟩:Reply),{ a1 with consumers:=(zk0 a1.consumers a0.C ((zv (zb a1.consumers a0.C) a1.clock).getD default).1) })))))
      (.ite (a0.Kind==8)
       (.ite (a0.Back)
        (.guard ((0:Int)≤a0.C∧(a0.C:Int) < 2)
        (.guard ((0:Int)≤1∧(1:Int) < 2)
        (.guard ((0:Int)≤a0.C∧(a0.C:Int) < 2)
        (.ite (false)
         (.leaf ((⟨0,0⟩:Reply),{ a1 with p:={ a1.p with Links:={ a1.p.Links with SHeight:=(a1.p.Links.SHeight.set a0.C (a1.heads.CHeight.get a0.C)),STime:=(a1.p.Links.STime.set a0.C (a1.heads.CTime.get a0.C)),SSaid:=(a1.p.Links.SSaid.set a0.C (a1.heads.CSaid.get a0.C)),SGot:=(a1.p.Links.SGot.set a0.C (a1.heads.CGot.get a0.C)) } } }))
         (.leaf ((⟨0,0⟩:Reply),{ a1 with p:={ a1.p with Links:={ a1.p.Links with SHeight:=(a1.p.Links.SHeight.set a0.C (a1.heads.CHeight.get a0.C)),STime:=(a1.p.Links.STime.set a0.C (a1.heads.CTime.get a0.C)),SSaid:=(a1.p.Links.SSaid.set a0.C (a1.heads.CSaid.get a0.C)),SGot:=(a1.p.Links.SGot.set a0.C (a1.heads.CGot.get a0.C)) } },consumers:=(zk0 a1.consumers a0.C (zb a1.consumers a0.C)) }))))))
        (.guard ((0:Int)≤a0.C∧(a0.C:Int) < 2)
        (.guard ((0:Int)≤0∧(0:Int) < 2)
        (.ite (false)
         (.leaf ((⟨0,0⟩:Reply),a1))
         (.leaf ((⟨0,0⟩:Reply),{ a1 with consumers:=(zk0 a1.consumers a0.C ({ ((zb a1.consumers a0.C):zc) with Seen:=(⟨a1.heads.PHeight.get a0.C,a1.heads.PTime.get a0.C,a1.heads.PSaid.get a0.C,a1.heads.PGot.get a0.C⟩:z98) })) }))))))
       (.ite (a0.Kind==9)
        (.bind (zfn a0 a1) fun v1 =>
        (.leaf (v1.1,v1.2)))
        (.ite (a0.Kind==10)
         (.bind (zf6 a0 a1) fun v2 =>
         (.leaf (v2.1,v2.2)))
         (.ite (a0.Kind==11)
          (.guard ((zdl (zb a1.consumers a0.C) a0.V a1.clock).isSome=true)
          (.ite (((zdl (zb a1.consumers a0.C) a0.V a1.clock).getD default).2 != 0)
           (.leaf ((⟨((zdl (zb a1.consumers a0.C) a0.V a1.clock).getD default).2,0⟩:Reply),a1))
           (.leaf ((⟨0,0⟩:Reply),{ a1 with consumers:=(zk0 a1.consumers a0.C ((zdl (zb a1.consumers a0.C) a0.V a1.clock).getD default).1) }))))
          (.ite (a0.Kind==12)
           (.guard ((zck (zb a1.consumers a0.C) a0.V a0.N a1.clock).isSome=true)
           (.ite (((zck (zb a1.consumers a0.C) a0.V a0.N a1.clock).getD default).2 != 0)
            (.leaf ((⟨((zck (zb a1.consumers a0.C) a0.V a0.N a1.clock).getD default).2,0⟩:Reply),a1))
            (.leaf ((⟨0,0⟩:Reply),{ a1 with consumers:=(zk0 a1.consumers a0.C ((zck (zb a1.consumers a0.C) a0.V a0.N a1.clock).getD default).1) }))))
           (.ite (false)
            (.leaf ((⟨0,0⟩:Reply),a1))
            (.leaf ((⟨0,0⟩:Reply),{ a1 with consumers:=(zk0 a1.consumers a0.C (zb a1.consumers a0.C)) }))))))))))))))
def zfo (a0:Deed) (a1:Wld):=(zf7 a0 a1).run
def zku:SpecT:=zr 1 (LQ.kp 0 0 (LQ.v (Par.ofLP deedL) (LP.q zsz))) 2 [.cells 99 159] (u2 zf7) default (LQ.v (Par.ofLP zxx) (LP.q zsz)) 1 [.cells 99 159]
theorem zrj:zg Tryz.prog 35 (zku).spec :=
 sK (A:=⟨[],[],[],[[0,3,4],[0,3,4,17],[4],[0,3,4,26],[4],[0,3,4,5],[0,3,4,5,43],[4],[0,3,4,5,6],[0,3,4,5,6,7],[0,3,4,5,6,7,49],[0,3,4,5,6,7,49,50],[0,3,4,5,8,9],[0,3,4,5,8,9,63],[4],[0,3,4,8],[4,8],[4],[0,3,4,5,6,7,49,91],[0,3,4,5,6,7],[0,3,4,5,6,7,103],[4,5,6,7],[0,3,4,5,6,7,49,130],[0,3,4,5,6,7,133],[4,5,6,7],[4,5,6,7],[0,3,4,5,6,7,49,159],[4],[0,3,4,5,6,7,49,164],[4],[0,3,4,5,6,7,49,169],[4,5,6,7],[0,3,4,5,6,7,182],[4,5,6,7],[4,5,6,7,198],[4],[4],[4]],[]⟩) zaxy fM Tryz.func35 (c:=(fb Tryz.f35)) (by kernel_rfl) (Lc:=1) trivial _ _ 7 _ _ _ _ _ _ [.pubN 0] (by rintro ⟨a0,a1⟩;kernel_rfl)
noncomputable def zaxz:EnvT:=⟨Tryz.prog,zac [(30,zm1),(31,zkq),(32,zt2),(33,zm3),(34,zks),(35,zku)]⟩
theorem zax0:(zaxz).Ok:=zf ⟨ztl,zrg,z0e,ztm,zrh,zrj,trivial⟩
def zld (a0:Deed) (a1:Wld): Tr (Reply×Wld) :=
 (.ite (decide (a1.deeds≥600))
  (.leaf ((⟨6,0⟩:Reply),a1))
  (.ite (a0.Kind==1)
   (.bind (zgq a1.p a0.D a0.V a0.N) fun v1 =>
   (.ite (v1.2 != 0)
    (.leaf ((⟨v1.2,0⟩:Reply),{ a1 with deeds:=i64.wrap (a1.deeds+1) }))
    (.leaf ((⟨0,0⟩:Reply),{ a1 with p:=v1.1,deeds:=i64.wrap (a1.deeds+1) }))))
   (.ite (a0.Kind==2)
    (.guard ((za6 a1.p a0.D a0.V a0.N a1.clock).isSome=true)
    (.ite (((za6 a1.p a0.D a0.V a0.N a1.clock).getD default).2 != 0)
     (.leaf ((⟨((za6 a1.p a0.D a0.V a0.N a1.clock).getD default).2,0⟩:Reply),{ a1 with deeds:=i64.wrap (a1.deeds+1) }))
     (.leaf ((⟨0,0⟩:Reply),{ a1 with p:=((za6 a1.p a0.D a0.V a0.N a1.clock).getD default).1,deeds:=i64.wrap (a1.deeds+1) }))))
    (.ite (a0.Kind==3)
     (.bind (zmq a1.p.Stake a0.V) fun v2 =>
     (.ite (v2.2 != 0)
      (.leaf ((⟨v2.2,0⟩:Reply),{ a1 with deeds:=i64.wrap (a1.deeds+1) }))
      (.leaf ((⟨0,0⟩:Reply),{ a1 with p:={ a1.p with Stake:=v2.1 },deeds:=i64.wrap (a1.deeds+1) }))))
     (.ite (a0.Kind==13)
      (.bind (zgs a1.p a0.V a0.N) fun v3 =>
      (.ite (v3.2 != 0)
       (.leaf ((⟨v3.2,0⟩:Reply),{ a1 with deeds:=i64.wrap (a1.deeds+1) }))
       (.leaf ((⟨0,0⟩:Reply),{ a1 with p:=v3.1,deeds:=i64.wrap (a1.deeds+1) }))))
      (.ite (a0.Kind==5)
       (.ite ((decide (a0.N < 1))||(decide (a0.N > (i64.wrap (1099511627736 - a1.clock)))))
        (.leaf ((⟨2,0⟩:Reply),{ a1 with deeds:=i64.wrap (a1.deeds+1) }))
        (.leaf ((⟨0,i64.wrap (a1.clock+a0.N)⟩:Reply),{ a1 with clock:=i64.wrap (a1.clock+a0.N),deeds:=i64.wrap (a1.deeds+1) })))
       (.ite (a0.Kind==6)
        (.bind (zfm ({ a1 with deeds:=i64.wrap (a1.deeds+1) })) fun v4 =>
        (.leaf (v4.1,v4.2)))
        (.bind (zfo a0 ({ a1 with deeds:=i64.wrap (a1.deeds+1) })) fun v5 =>
        (.leaf (v5.1,v5.2))))))))))
def zb3 (a0:Deed) (a1:Wld):=(zld a0 a1).run
def zle:SpecT:=zr 1 (LQ.kp 0 0 (LQ.v (Par.ofLP deedL) (LP.q zsz))) 2 [.cells 99 159] (u2 zld) default (LQ.v (Par.ofLP zxx) (LP.q zsz)) 1 [.cells 99 159]
theorem zpq:zg Tryz.prog 17 (zle).spec :=
 sK (A:=⟨[],[],[[1,0,0,1]],[[0,3,4],[0,3,4,7],[4],[0,3,4,11],[4],[0,3,4],[0,3,4],[0,3,4,6],[0,3,4,6,30],[4],[0,3,4,6,30,34],[0,4,5,6],[0,3,4,6,30,47],[0,4,5,6],[0,3,4,6,30,64],[0,4,5,6],[0,3,4,6,30,75],[0,4,5,6],[0,3,4,30,86],[0,3,4,100],[4],[0,4],[4],[0,3,4,116],[4],[0,4,5,6,121],[4],[4],[4]],[]⟩) zax0 fM Tryz.func17 (c:=(fb Tryz.f17)) (by kernel_rfl) (Lc:=1) trivial _ _ 6 _ _ _ _ _ _ [.pubN 0] (by rintro ⟨a0,a1⟩;kernel_rfl)
end
