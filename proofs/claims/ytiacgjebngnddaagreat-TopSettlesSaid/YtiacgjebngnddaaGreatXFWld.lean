/-
  The functions, each by its tree.
-/
import Derived.Test.YtiacgjebngnddaaGreatXAbC
import Derived.Test.YtiacgjebngnddaaGreatXFBank
import Derived.Test.YtiacgjebngnddaaGreatXFCodec
import Derived.Test.YtiacgjebngnddaaGreatXFCons
import Derived.Test.YtiacgjebngnddaaGreatXFLine
import Derived.Test.YtiacgjebngnddaaGreatXFProv
import Derived.Test.YtiacgjebngnddaaGreatXFRatio
import Derived.Test.YtiacgjebngnddaaGreatXFStakeA
import Derived.Test.YtiacgjebngnddaaGreatXFStakeB
import Derived.Test.YtiacgjebngnddaaGreatXFacts
namespace Go.Proofs.YtiacgjebngnddaaGreat.Ab
open Go Go.RowKit
open Go.IntKind (i64 u64)
set_option maxRecDepth 100000
set_option linter.unusedVariables false
set_option linter.unusedSimpArgs false
noncomputable section
noncomputable def za11:EnvT:=⟨Tryz.prog,zah [(36,zvh)]⟩
theorem za12:(za11).Ok:=zf ⟨z18,trivial⟩
def zwn  : Tr (Wld) :=
 (.bind (zn7) fun v1 =>
 (.leaf (⟨0,v1,(default:zc1),(default:zuw),0⟩:Wld)))
def zpf  := (zwn ).run
def zwo:SpecT:=zw 0 LQ.nil 0 [] (fun s=>zwn ) default (LQ.kp 0 0 (LP.q zqf)) 1 [.cells 99 159]
theorem zz1:zg Tryz.prog 19 (zwo).spec :=
 sK (A:=⟨[],[],[],[[],[0]],[]⟩) za12 fM Tryz.func19 (c:=(fb Tryz.f19)) (by kernel_rfl) (Lc:=0) trivial _ _ 3 _ _ _ _ _ _ [.pubB 0] (by rintro _;kernel_rfl)
def zi2 (a0:Wld): Tr (Int×Wld) :=
 (.leaf (a0.clock,a0))
def zhn (a0:Wld):=(zi2 a0).run
def zoh:SpecT:=zw 1 (LQ.kp 0 0 (LP.q zqf)) 1 [.cells 99 159] zi2 default (LQ.v intP (LP.q zqf)) 1 [.cells 99 159]
theorem zu1:zg Tryz.prog 38 (zoh).spec :=
 sK (A:=⟨[],[],[[1,0,1]],[[0],[0,4],[2],[2]],[]⟩) zhN fM Tryz.func38 (c:=(fb Tryz.f38)) (by kernel_rfl) (Lc:=1) trivial _ _ 3 _ _ _ _ _ _ [.pubN 0] (by rintro a0;kernel_rfl)
def zp5 (a0:(List Power)): Tr ((List Power)) :=
 (.guard ((0+Sl.len (.powers a0))*16≤140737488355328)
 (.leaf a0))
def zby (a0:(List Power)):=(zp5 a0).run
def zlf:SpecT:=zw 0 (Par.q zp) 1 [] zp5 default (Par.q zp) 1 []
theorem zoi:zg Tryz.prog 24 (zlf).spec :=
 sK (A:=⟨[],[],[],[[0],[2]],[]⟩) zhN fM Tryz.func24 (c:=(fb Tryz.f24)) (by kernel_rfl) (Lc:=0) trivial _ _ 3 _ _ _ _ _ _ [.pub 2] (by rintro a0;kernel_rfl)
def zoj (a0:(List Int)): Tr ((List Int)) :=
 (.guard ((0+Sl.len (.ints a0))*8≤140737488355328)
 (.leaf a0))
def zb4 (a0:(List Int)):=(zoj a0).run
def zj4:SpecT:=zw 0 (Par.q zgh) 1 [] zoj default (Par.q zgh) 1 []
theorem zme:zg Tryz.prog 25 (zj4).spec :=
 sK (A:=⟨[],[],[],[[0],[2]],[]⟩) zhN fM Tryz.func25 (c:=(fb Tryz.f25)) (by kernel_rfl) (Lc:=0) trivial _ _ 3 _ _ _ _ _ _ [.pub 2] (by rintro a0;kernel_rfl)
noncomputable def za13:EnvT:=⟨Tryz.prog,zah [(24,zlf),(25,zj4)]⟩
theorem za14:(za13).Ok:=zf ⟨zoi,zme,trivial⟩
def zp6 (a0:Packet): Tr (Packet) :=
 (.guard ((zby a0.Set).isSome=true)
 (.guard ((zb4 a0.Done).isSome=true)
 (.leaf ({ a0 with Set:=((zby a0.Set).getD default),Done:=((zb4 a0.Done).getD default) }))))
def ze1 (a0:Packet):=(zp6 a0).run
def zp7:SpecT:=zw 0 (Par.q (Par.ofLP zkg)) 1 [] zp6 default (Par.q (Par.ofLP zkg)) 1 []
theorem ztw:zg Tryz.prog 27 (zp7).spec :=
 sK (A:=⟨[],[],[],[[1,2],[1,2],[2]],[]⟩) za14 fM Tryz.func27 (c:=(fb Tryz.f27)) (by kernel_rfl) (Lc:=0) trivial _ _ 4 _ _ _ _ _ _ [.pubB 2] (by rintro a0;kernel_rfl)
noncomputable def za15:EnvT:=⟨Tryz.prog,zah [(25,zj4)]⟩
theorem za16:(za15).Ok:=zf ⟨zme,trivial⟩
def zok (a0:zi6): Tr (zi6) :=
 (.guard ((0+Sl.len (.strs a0.Said))*16≤140737488355328)
 (.guard ((zb4 a0.Due).isSome=true)
 (.leaf ({ a0 with Due:=((zb4 a0.Due).getD default) }))))
def zbm (a0:zi6):=(zok a0).run
def zol:SpecT:=zw 0 (Par.q (Par.ofLP lineL)) 1 [] zok default (Par.q (Par.ofLP lineL)) 1 []
theorem zsm:zg Tryz.prog 26 (zol).spec :=
 sK (A:=⟨[],[],[],[[1,2],[1,2],[2]],[]⟩) za16 fM Tryz.func26 (c:=(fb Tryz.f26)) (by kernel_rfl) (Lc:=0) trivial _ _ 5 _ _ _ _ _ _ [.pubB 2] (by rintro a0;kernel_rfl)
def zarp:List (List Nat):=[[0,2],[0,2,10],[2],[2,3],[2,3],[2,3],[2,3,26],[2,3,26,27],[2,3,4,26],[2,3,5,26],[2,3,26],[2,3,26],[2,3,6],[2,3,6,58,59,60],[2,3,6,58,59,60,61],[2,3,6,8,58,59,60],[2,3,6,58,59,60],[2,3,6,58,59,60],[2,3],[2]]
noncomputable def zarq:EnvT:=⟨Tryz.prog,zah [(24,zlf),(25,zj4),(26,zol),(27,zp7)]⟩
theorem zarr:(zarq).Ok:=zf ⟨zoi,zme,zsm,ztw,trivial⟩
def zax (x0:Int) (x1:Wld) (x2 x3:zb): Tr ((Int×Wld×zb×zb)⊕(Wld×zb×zb)) :=
 (.ite (decide (x0 < 2))
  (.guard ((0:Int)≤x0∧(x0:Int) < 2)
  (.guard ((zby (x3.Links.Told.get x0)).isSome=true)
  (.guard ((zb4 (x3.Links.Done.get x0)).isSome=true)
  (.guard ((zbm (zc x3.Links x0).Out).isSome=true)
  (.leaf (.inl (i64.wrap (x0+1),x1,x2,{ x3 with Links:={ x3.Links with Told:=(x3.Links.Told.set x0 ((zby (x3.Links.Told.get x0)).getD default)),Done:=(x3.Links.Done.set x0 ((zb4 (x3.Links.Done.get x0)).getD default)),Said:=(x3.Links.Said.set x0 ((zbm (zc x3.Links x0).Out).getD default).Said),Due:=(x3.Links.Due.set x0 ((zbm (zc x3.Links x0).Out).getD default).Due),Got:=(x3.Links.Got.set x0 ((zbm (zc x3.Links x0).Out).getD default).Got),Closed:=(x3.Links.Closed.set x0 ((zbm (zc x3.Links x0).Out).getD default).Closed) } })))))))
  (.leaf (.inr (x1,x2,x3))))
def zdt (x0:Int) (x1:Wld) (x2 x3:zb):=zdm (fun s:Int×Wld×zb×zb=>(zax s.1 s.2.1 s.2.2.1 s.2.2.2).run) (x0,x1,x2,x3)
def zau8:Ann:=⟨[],[],[],zarp,[]⟩
def zau9:=EndD.mk (LQ.map (LQ.kp 1 0 (LQ.kp 2 0 (LQ.v intP (LQ.seq (LP.q zqf) (LQ.seq (LP.q providerL) (LQ.v intP (LQ.v intP (LQ.seq (LP.q bankL) (LQ.seq (LP.q validatorsL) (LQ.seq (LP.q (a4L (a6L (LP.one intP)))) (LQ.k (LQ.c (.own 3)) (LQ.v intP (LQ.v zp (LQ.seq (LP.q linksL) (LQ.seq (LP.q meterL) (LQ.v zel (Par.q zli))))))))))))))))) (fun x=>(x.1,x.2.1,x.2.2.1,(⟨x.2.2.2.1,(d4 x).1,(⟨(d4 x).2.1,(d4 x).2.2.1,(d4 x).2.2.2.1,(d12 x).2,(d8 x).1⟩:Stake),(d8 x).2.1,(d8 x).2.2.1,(d8 x).2.2.2.1,(d12 x).1⟩:zb))) (fun y=>(y.1,y.2.1,y.2.2.1,y.2.2.2.Height,y.2.2.2.Time,y.2.2.2.Stake.Bank,y.2.2.2.Stake.Validators,y.2.2.2.Stake.Shares,y.2.2.2.Stake.Next,y.2.2.2.Set,y.2.2.2.Links,y.2.2.2.Meter,y.2.2.2.Queue,y.2.2.2.Stake.Waits)) (fun _=>rfl)) ⟨[2,3,26],[.nilcell 3 63 78 (.waits [])]⟩ [.cells 99 159,.cells 58 97,.cells 58 97,.rows 78]
def zal3:=EndD.mk (LQ.map (LQ.kp 1 0 (LQ.kp 2 0 (LQ.seq (LP.q zqf) (LQ.seq (LP.q providerL) (LQ.v intP (LQ.v intP (LQ.seq (LP.q bankL) (LQ.seq (LP.q validatorsL) (LQ.seq (LP.q (a4L (a6L (LP.one intP)))) (LQ.k (LQ.c (.own 3)) (LQ.v intP (LQ.v zp (LQ.seq (LP.q linksL) (LQ.seq (LP.q meterL) (LQ.v zel (Par.q zli)))))))))))))))) (fun x=>(x.1,x.2.1,(⟨x.2.2.1,x.2.2.2.1,(⟨(d4 x).1,(d4 x).2.1,(d4 x).2.2.1,(d12 x),(d4 x).2.2.2.1⟩:Stake),(d8 x).1,(d8 x).2.1,(d8 x).2.2.1,(d8 x).2.2.2.1⟩:zb))) (fun y=>(y.1,y.2.1,y.2.2.Height,y.2.2.Time,y.2.2.Stake.Bank,y.2.2.Stake.Validators,y.2.2.Stake.Shares,y.2.2.Stake.Next,y.2.2.Set,y.2.2.Links,y.2.2.Meter,y.2.2.Queue,y.2.2.Stake.Waits)) (fun _=>rfl)) ⟨[2,3],[.nilcell 3 63 78 (.waits [])]⟩ [.cells 99 159,.cells 58 97,.cells 58 97,.rows 78]
def zaov:St→Option LR:=L1 77 10 1 zau9 (.exit 0) zal3 (u4 zax)
def zs107a:=sub (fb Tryz.f10) [0,1,0,1,1,1,1,1]
theorem zava:zt (zarq).env 1 zs107a zaov :=
 zht (A:=zau8) zarr fM trivial (k:=zcd zs107a) (by kernel_rfl) rfl (by rintro ⟨x0,x1,x2,x3⟩;kernel_rfl)
def zbh (x0:(List Asked)) (x1 x2:Int) (x3:Wld) (x4 x5:zb) (x6:(List Asked)): Tr (((List Asked)×Int×Int×Wld×zb×zb×(List Asked))⊕(Wld×zb×zb×(List Asked))) :=
 (.ite (decide (x2 < x1))
  (.guard ((0:Int)≤x2∧x2 < ((Sl.len (.asked x0):Nat):Int))
  (.guard ((ze1 (x0.getD x2.toNat default).P).isSome=true)
  (.guard ((Sl.len (.asked x6)+Sl.len (.asked [(⟨(x0.getD x2.toNat default).C,((ze1 (x0.getD x2.toNat default).P).getD default)⟩:Asked)]))*88≤140737488355328)
  (.leaf (.inl (x0,x1,i64.wrap (x2+1),x3,x4,x5,x6++[(⟨(x0.getD x2.toNat default).C,((ze1 (x0.getD x2.toNat default).P).getD default)⟩:Asked)]))))))
  (.leaf (.inr (x3,x4,x5,x6))))
def zdu (x0:(List Asked)) (x1 x2:Int) (x3:Wld) (x4 x5:zb) (x6:(List Asked)):=zdm (fun s:(List Asked)×Int×Int×Wld×zb×zb×(List Asked)=>(zbh s.1 s.2.1 s.2.2.1 s.2.2.2.1 s.2.2.2.2.1 s.2.2.2.2.2.1 s.2.2.2.2.2.2).run) (x0,x1,x2,x3,x4,x5,x6)
def zavb:Ann:=⟨[],[],[],zarp,[]⟩
def zavc:=EndD.mk (LQ.map (LQ.kp 1 0 (LQ.kp 2 0 (LQ.k (LQ.c (.own 3)) (LQ.v zel (LQ.v intP (LQ.v intP (LQ.seq (LP.q zqf) (LQ.seq (LP.q providerL) (LQ.v intP (LQ.v intP (LQ.seq (LP.q bankL) (LQ.seq (LP.q validatorsL) (LQ.seq (LP.q (a4L (a6L (LP.one intP)))) (LQ.k (LQ.c (.own 4)) (LQ.v intP (LQ.v zp (LQ.seq (LP.q linksL) (LQ.seq (LP.q meterL) (LQ.v zel (LQ.v zel (Par.q zli))))))))))))))))))))) (fun x=>(x.1,x.2.1,x.2.2.1,x.2.2.2.1,(d4 x).1,(⟨(d4 x).2.1,(d4 x).2.2.1,(⟨(d4 x).2.2.2.1,(d8 x).1,(d8 x).2.1,(d16 x),(d8 x).2.2.1⟩:Stake),(d8 x).2.2.2.1,(d12 x).1,(d12 x).2.1,(d12 x).2.2.1⟩:zb),(d12 x).2.2.2.1)) (fun y=>(y.1,y.2.1,y.2.2.1,y.2.2.2.1,(d4 y).1,(d4 y).2.1.Height,(d4 y).2.1.Time,(d4 y).2.1.Stake.Bank,(d4 y).2.1.Stake.Validators,(d4 y).2.1.Stake.Shares,(d4 y).2.1.Stake.Next,(d4 y).2.1.Set,(d4 y).2.1.Links,(d4 y).2.1.Meter,(d4 y).2.1.Queue,(d4 y).2.2,(d4 y).2.1.Stake.Waits)) (fun _=>rfl)) ⟨[2,3,6,58,59,60],[.nilcell 3 63 78 (.waits []),.nilown 6 90 (.asked []),.pub 58,.nilsl 58 (.asked [])]⟩ [.cells 99 159,.cells 58 97,.cells 58 97,.rows 90,.rows 78]
def zal4:=EndD.mk (LQ.map (LQ.kp 1 0 (LQ.kp 2 0 (LQ.k (LQ.c (.own 3)) (LQ.seq (LP.q zqf) (LQ.seq (LP.q providerL) (LQ.v intP (LQ.v intP (LQ.seq (LP.q bankL) (LQ.seq (LP.q validatorsL) (LQ.seq (LP.q (a4L (a6L (LP.one intP)))) (LQ.k (LQ.c (.own 4)) (LQ.v intP (LQ.v zp (LQ.seq (LP.q linksL) (LQ.seq (LP.q meterL) (LQ.v zel (LQ.v zel (Par.q zli)))))))))))))))))) (fun x=>(x.1,x.2.1,(⟨x.2.2.1,x.2.2.2.1,(⟨(d4 x).1,(d4 x).2.1,(d4 x).2.2.1,(d12 x).2,(d4 x).2.2.2.1⟩:Stake),(d8 x).1,(d8 x).2.1,(d8 x).2.2.1,(d8 x).2.2.2.1⟩:zb),(d12 x).1)) (fun y=>(y.1,y.2.1,y.2.2.1.Height,y.2.2.1.Time,y.2.2.1.Stake.Bank,y.2.2.1.Stake.Validators,y.2.2.1.Stake.Shares,y.2.2.1.Stake.Next,y.2.2.1.Set,y.2.2.1.Links,y.2.2.1.Meter,y.2.2.1.Queue,y.2.2.2,y.2.2.1.Stake.Waits)) (fun _=>rfl)) ⟨[2,3,6],[.nilcell 3 63 78 (.waits []),.nilown 6 90 (.asked [])]⟩ [.cells 99 159,.cells 58 97,.cells 58 97,.rows 90,.rows 78]
def zaow:St→Option LR:=L1 77 10 1 zavc (.exit 2) zal4 (u7 zbh)
def zs107b:=sub (fb Tryz.f10) [0,1,0,1,1,1,1,1,1,1]
theorem zavd:zt (zarq).env 1 zs107b zaow :=
 zht (A:=zavb) zarr fM trivial (k:=zcd zs107b) (by kernel_rfl) rfl (by rintro ⟨x0,x1,x2,x3,x4,x5,x6⟩;kernel_rfl)
def zf4 (a0:Wld): Tr (zb×Wld) :=
 (.guard ((0+Sl.len (.waits a0.p.Stake.Waits))*64≤140737488355328)
 (.bind (zby a0.p.Set) fun v1 =>
 (.bind (zdt 0 a0 (default:zb) ({ a0.p with Set:=v1 })) fun v2 =>
 (.bind (zdu v2.2.2.Queue ((v2.2.2.Queue.length:Nat):Int) 0 v2.1 v2.2.1 v2.2.2 []) fun v3 =>
 (.leaf ({ v3.2.2.1 with Queue:=v3.2.2.2 },v3.1))))))
def zar (a0:Wld):=(zf4 a0).run
def zf5:SpecT:=zw 1 (LQ.kp 0 0 (LP.q zqf)) 1 [.cells 99 159] zf4 default (LQ.v (Par.ofLP providerL) (LP.q zqf)) 1 [.cells 99 159]
theorem zj5:zg Tryz.prog 10 (zf5).spec :=
 sK (A:=⟨[([0,1,0,1,1,1,1,1],zaov),([0,1,0,1,1,1,1,1,1,1],zaow)],[],[[1,0,1]],zarp,[]⟩) zarr fM Tryz.func10 (c:=(fb Tryz.f10)) (by kernel_rfl) (Lc:=1) ⟨zava,zavd,trivial⟩ _ _ 10 _ _ _ _ _ _ [.pubN 0,.pubB 2] (by rintro a0;kernel_rfl)
def zave:List (List Nat):=[[0,1,4],[0,1,4,18],[4],[4,5],[4,5],[4,5,6],[4,5,6,39,40,41],[4,5,6,39,40,41,42],[4,5,6,8,39,40,41],[4,5,6,39,40,41],[4,5,6,39,40,41],[4,5],[4]]
noncomputable def zavf:EnvT:=⟨Tryz.prog,zah [(24,zlf),(26,zol),(27,zp7)]⟩
theorem zavg:(zavf).Ok:=zf ⟨zoi,zsm,ztw,trivial⟩
def zbi (x0:(List Packet)) (x1 x2:Int) (x3:Wld) (x4 x5:Consumer) (x6:(List Packet)): Tr (((List Packet)×Int×Int×Wld×Consumer×Consumer×(List Packet))⊕(Wld×Consumer×Consumer×(List Packet))) :=
 (.ite (decide (x2 < x1))
  (.guard ((0:Int)≤x2∧x2 < ((Sl.len (.packets x0):Nat):Int))
  (.bind (ze1 (x0.getD x2.toNat default)) fun v1 =>
  (.guard ((Sl.len (.packets x6)+Sl.len (.packets [v1]))*80≤140737488355328)
  (.leaf (.inl (x0,x1,i64.wrap (x2+1),x3,x4,x5,x6++[v1]))))))
  (.leaf (.inr (x3,x4,x5,x6))))
def zdv (x0:(List Packet)) (x1 x2:Int) (x3:Wld) (x4 x5:Consumer) (x6:(List Packet)):=zdm (fun s:(List Packet)×Int×Int×Wld×Consumer×Consumer×(List Packet)=>(zbi s.1 s.2.1 s.2.2.1 s.2.2.2.1 s.2.2.2.2.1 s.2.2.2.2.2.1 s.2.2.2.2.2.2).run) (x0,x1,x2,x3,x4,x5,x6)
def zavh:Ann:=⟨[],[],[],zave,[]⟩
def zavi:=EndD.mk (LQ.map (LQ.kp 1 0 (LQ.kp 2 0 (LQ.k (LQ.c (.own 3)) (LQ.v zdj (LQ.v intP (LQ.v intP (LQ.seq (LP.q zqf) (LQ.seq (LP.q zab) (LQ.v boolP (LQ.v boolP (LQ.v intP (LQ.v intP (LQ.v intP (LQ.v zp (LQ.v zdj (LQ.k (LQ.c (.own 4)) (LQ.seq (LP.q (a6L (LP.one boolP))) (LQ.seq (LP.q lineL) (LQ.seq (LP.q z5w) (LQ.v zdj (Par.q zu6))))))))))))))))))))) (fun x=>(x.1,x.2.1,x.2.2.1,x.2.2.2.1,(d4 x).1,(⟨(d4 x).2.1,(d4 x).2.2.1,(d4 x).2.2.2.1,(d8 x).1,(d8 x).2.1,(d8 x).2.2.1,(d8 x).2.2.2.1,(d16 x),(d12 x).1,(d12 x).2.1,(d12 x).2.2.1⟩:Consumer),(d12 x).2.2.2.1)) (fun y=>(y.1,y.2.1,y.2.2.1,y.2.2.2.1,(d4 y).1,(d4 y).2.1.On,(d4 y).2.1.Gone,(d4 y).2.1.Height,(d4 y).2.1.Time,(d4 y).2.1.Id,(d4 y).2.1.Set,(d4 y).2.1.Pending,(d4 y).2.1.Flags,(d4 y).2.1.Out,(d4 y).2.1.Seen,(d4 y).2.2,(d4 y).2.1.Ripes)) (fun _=>rfl)) ⟨[4,5,6,39,40,41],[.nilcell 5 7 93 (.ripes []),.nilown 6 73 (.packets []),.pub 39,.nilsl 39 (.packets [])]⟩ [.cells 99 159,.cells 64 22,.cells 64 22,.rows 73,.rows 93]
def zal5:=EndD.mk (LQ.map (LQ.kp 1 0 (LQ.kp 2 0 (LQ.k (LQ.c (.own 3)) (LQ.seq (LP.q zqf) (LQ.seq (LP.q zab) (LQ.v boolP (LQ.v boolP (LQ.v intP (LQ.v intP (LQ.v intP (LQ.v zp (LQ.v zdj (LQ.k (LQ.c (.own 4)) (LQ.seq (LP.q (a6L (LP.one boolP))) (LQ.seq (LP.q lineL) (LQ.seq (LP.q z5w) (LQ.v zdj (Par.q zu6)))))))))))))))))) (fun x=>(x.1,x.2.1,(⟨x.2.2.1,x.2.2.2.1,(d4 x).1,(d4 x).2.1,(d4 x).2.2.1,(d4 x).2.2.2.1,(d8 x).1,(d12 x).2,(d8 x).2.1,(d8 x).2.2.1,(d8 x).2.2.2.1⟩:Consumer),(d12 x).1)) (fun y=>(y.1,y.2.1,y.2.2.1.On,y.2.2.1.Gone,y.2.2.1.Height,y.2.2.1.Time,y.2.2.1.Id,y.2.2.1.Set,y.2.2.1.Pending,y.2.2.1.Flags,y.2.2.1.Out,y.2.2.1.Seen,y.2.2.2,y.2.2.1.Ripes)) (fun _=>rfl)) ⟨[4,5,6],[.nilcell 5 7 93 (.ripes []),.nilown 6 73 (.packets [])]⟩ [.cells 99 159,.cells 64 22,.cells 64 22,.rows 73,.rows 93]
def zaox:St→Option LR:=L1 54 10 1 zavi (.exit 0) zal5 (u7 zbi)
def zs108a:=sub (fb Tryz.f11) [0,1,0,1,1,1,1,1]
theorem zavj:zt (zavf).env 1 zs108a zaox :=
 zht (A:=zavh) zavg fM trivial (k:=zcd zs108a) (by kernel_rfl) rfl (by rintro ⟨x0,x1,x2,x3,x4,x5,x6⟩;kernel_rfl)
def zf6 (a0:Int) (a1:Wld): Tr (Consumer×Wld) :=
 (.ite ((false||(decide (a0 < 0)))||(decide (a0≥2)))
  (.leaf ((default:Consumer),a1))
  (.guard ((0:Int)≤a0∧(a0:Int) < 2)
  (.guard ((zby (a1.consumers.Set.get a0)).isSome=true)
  (.guard ((zbm (za a1.consumers a0).Out).isSome=true)
  (.guard ((0+Sl.len (.ripes (a1.consumers.Ripes.get a0)))*16≤140737488355328)
  (.bind (zdv (a1.consumers.Pending.get a0) (((a1.consumers.Pending.get a0).length:Nat):Int) 0 a1 (default:Consumer) ({ ((za a1.consumers a0):Consumer) with Set:=((zby (a1.consumers.Set.get a0)).getD default),Out:=((zbm (za a1.consumers a0).Out).getD default) }) []) fun v2 =>
  (.leaf ({ v2.2.2.1 with Pending:=v2.2.2.2 },v2.1))))))))
def zn (a0:Int) (a1:Wld):=(zf6 a0 a1).run
def zdl:SpecT:=zw 1 (LQ.kp 0 0 (LQ.v intP (LP.q zqf))) 2 [.cells 99 159] (u2 zf6) default (LQ.v (Par.ofLP zab) (LP.q zqf)) 1 [.cells 99 159]
theorem zfk:zg Tryz.prog 11 (zdl).spec :=
 sK (A:=⟨[([0,1,0,1,1,1,1,1],zaox)],[],[],zave,[]⟩) zavg fM Tryz.func11 (c:=(fb Tryz.f11)) (by kernel_rfl) (Lc:=1) ⟨zavj,trivial⟩ _ _ 10 _ _ _ _ _ _ [.pubN 0,.pubB 4] (by rintro ⟨a0,a1⟩;kernel_rfl)
noncomputable def za17:EnvT:=⟨Tryz.prog,zah [(113,zld)]⟩
theorem za18:(za17).Ok:=zf ⟨znv,trivial⟩
def ztx (a0:zi6) (a1:Bool): Tr (ByteArray) :=
 (.ite (decide (a0.Got < ((a0.Said.length:Nat):Int)))
  (.guard ((0:Int)≤a0.Got∧a0.Got < ((Sl.len (.strs a0.Said):Nat):Int))
  (.ite (!a1)
   (.leaf (a0.Said.getD a0.Got.toNat .empty))
   (.bind (zbf (⟨3,1,0,i64.wrap (1+(((a0.Said.getD a0.Got.toNat .empty).size:Nat):Int)),[],[]⟩:Packet)) fun v1 =>
   (.leaf v1.1))))
  (.ite (!a1)
   (.leaf (⟨#[]⟩:ByteArray))
   (.bind (zbf (⟨3,1,0,i64.wrap (1+(((⟨#[]⟩:ByteArray).size:Nat):Int)),[],[]⟩:Packet)) fun v2 =>
   (.leaf v2.1))))
def zm8 (a0:zi6) (a1:Bool):=(ztx a0 a1).run
def zz2:SpecT:=zw 0 (LQ.v (Par.ofLP lineL) (Par.q boolP)) 2 [] (u2 ztx) default (Par.q strP) 1 []
theorem z63:zg Tryz.prog 78 (zz2).spec :=
 sK (A:=⟨[],[],[],[[1,2],[1,2,5],[1,2,5,11],[1,5],[5,19],[4],[5],[4]],[]⟩) za18 fM Tryz.func78 (c:=(fb Tryz.f78)) (by kernel_rfl) (Lc:=0) trivial _ _ 3 _ _ _ _ _ _ [] (by rintro ⟨a0,a1⟩;kernel_rfl)
def zavk:List (List Nat):=[[0,2],[0,2,3,4,5],[0,2,3,4,5,21],[2],[0,2,3,4],[0,2,3,4,28],[0,2,3,4,28,29],[0,2,3,4,6,28],[0,2,3,4,28],[0,2,3,4,28],[2]]
noncomputable def zavl:EnvT:=⟨Tryz.prog,zah [(46,zvk)]⟩
theorem zavm:(zavl).Ok:=zf ⟨z2b,trivial⟩
def za6 (x0:(List Int)) (x1:Int) (x2:Wld) (x3:Reply) (x4:zb): Tr (((List Int)×Int×Wld×Reply×zb)⊕((List Int)×Wld×Reply)) :=
 (.ite (decide (x1 < 2))
  (.guard ((0:Int)≤x1∧(x1:Int) < 2)
  (.guard ((0:Int)≤x1∧(x1:Int) < 2)
  (.guard ((0:Int)≤x1∧(x1:Int) < 2)
  (.guard ((0:Int)≤0∧(0:Int) < 2)
  (.leaf (.inl (x0,i64.wrap (x1+1),{ x2 with heads:={ x2.heads with PHeight:=(x2.heads.PHeight.set x1 x4.Height),PTime:=(x2.heads.PTime.set x1 x4.Time),PSaid:=(x2.heads.PSaid.set x1 (((x4.Links.Said.get x1).length:Nat):Int)),PGot:=(x2.heads.PGot.set x1 (x2.consumers.Got.get x1)) } },x3,x4)))))))
  (.leaf (.inr (x0,x2,x3))))
def zeb (x0:(List Int)) (x1:Int) (x2:Wld) (x3:Reply) (x4:zb):=zdm (fun s:(List Int)×Int×Wld×Reply×zb=>(za6 s.1 s.2.1 s.2.2.1 s.2.2.2.1 s.2.2.2.2).run) (x0,x1,x2,x3,x4)
def zavn:Ann:=⟨[],[],[],zavk,[]⟩
def zavo:=EndD.mk (LQ.kp 0 0 (LQ.kp 1 0 (LQ.kp 2 0 (LQ.v zgh (LQ.v intP (LQ.seq (LP.q zqf) (LQ.seq (LP.q zzo) (LP.q providerL)))))))) ⟨[0,2,3,4,28],[.pub 4,.nilsl 4 (.ints [])]⟩ [.cells 99 159,.cells 32 2,.cells 58 97]
def zal6:=EndD.mk (LQ.kp 1 0 (LQ.v zgh (LQ.seq (LP.q zqf) (LP.q zzo)))) ⟨[2,4],[.pub 4,.nilsl 4 (.ints [])]⟩ [.cells 99 159,.cells 32 2]
def zaoy:St→Option LR:=L1 61 5 1 zavo (.exit 0) zal6 (u5 za6)
def zs110a:=sub (fb Tryz.f34) [0,1,0,1,1,1,1]
theorem zavp:zt (zavl).env 1 zs110a zaoy :=
 zht (A:=zavn) zavm fM trivial (k:=zcd zs110a) (by kernel_rfl) rfl (by rintro ⟨x0,x1,x2,x3,x4⟩;kernel_rfl)
def zgp (a0:Wld): Tr (Reply×Wld) :=
 (.guard ((zco a0.p a0.clock).isSome=true)
 (.ite (((zco a0.p a0.clock).getD default).2.2 != 0)
  (.leaf ((⟨((zco a0.p a0.clock).getD default).2.2,0⟩:Reply),a0))
  (.bind (zeb ((zco a0.p a0.clock).getD default).2.1 0 ({ a0 with p:=((zco a0.p a0.clock).getD default).1 }) (⟨0,0⟩:Reply) ((zco a0.p a0.clock).getD default).1) fun v1 =>
  (.leaf ((⟨0,((v1.1.length:Nat):Int)⟩:Reply),v1.2.1)))))
def zf7 (a0:Wld):=(zgp a0).run
def zlu:SpecT:=zw 1 (LQ.kp 0 0 (LP.q zqf)) 1 [.cells 99 159] zgp default (LQ.v (Par.ofLP zzo) (LP.q zqf)) 1 [.cells 99 159]
theorem zst:zg Tryz.prog 34 (zlu).spec :=
 sK (A:=⟨[([0,1,0,1,1,1,1],zaoy)],[],[],zavk,[]⟩) zavm fM Tryz.func34 (c:=(fb Tryz.f34)) (by kernel_rfl) (Lc:=1) ⟨zavp,trivial⟩ _ _ 5 _ _ _ _ _ _ [.pubN 0] (by rintro a0;kernel_rfl)
noncomputable def za19:EnvT:=⟨Tryz.prog,zah [(78,zz2),(79,zvc),(80,zts),(81,ztq)]⟩
theorem za2a:(za19).Ok:=zf ⟨z63,z1z,z0i,z0g,trivial⟩
def zgq (a0:Deed) (a1:Wld): Tr (Reply×Wld) :=
 (.guard ((0:Int)≤a0.C∧(a0.C:Int) < 2)
 (.guard ((0:Int)≤a0.C∧(a0.C:Int) < 2)
 (.ite (a0.Back)
  (.bind (zm8 (za a1.consumers a0.C).Out a0.Forged) fun v1 =>
  (.guard ((zh (za a1.consumers a0.C).Out (i64.wrap ((a1.consumers.Got.get a0.C)+1)) v1 (a1.p.Links.SSaid.get a0.C) a1.clock).isSome=true)
  (.ite (((zh (za a1.consumers a0.C).Out (i64.wrap ((a1.consumers.Got.get a0.C)+1)) v1 (a1.p.Links.SSaid.get a0.C) a1.clock).getD default).2 != 0)
   (.leaf ((⟨((zh (za a1.consumers a0.C).Out (i64.wrap ((a1.consumers.Got.get a0.C)+1)) v1 (a1.p.Links.SSaid.get a0.C) a1.clock).getD default).2,0⟩:Reply),a1))
   (.ite (a0.Back)
    (.guard ((za7 a1.p a0.C v1).isSome=true)
    (.ite (((za7 a1.p a0.C v1).getD default).2 != 0)
     (.leaf ((⟨((za7 a1.p a0.C v1).getD default).2,0⟩:Reply),a1))
     (.leaf ((⟨0,((zh (za a1.consumers a0.C).Out (i64.wrap ((a1.consumers.Got.get a0.C)+1)) v1 (a1.p.Links.SSaid.get a0.C) a1.clock).getD default).1.Got⟩:Reply),{ a1 with p:=((za7 a1.p a0.C v1).getD default).1,consumers:={ a1.consumers with Said:=(a1.consumers.Said.set a0.C ((zh (za a1.consumers a0.C).Out (i64.wrap ((a1.consumers.Got.get a0.C)+1)) v1 (a1.p.Links.SSaid.get a0.C) a1.clock).getD default).1.Said),Due:=(a1.consumers.Due.set a0.C ((zh (za a1.consumers a0.C).Out (i64.wrap ((a1.consumers.Got.get a0.C)+1)) v1 (a1.p.Links.SSaid.get a0.C) a1.clock).getD default).1.Due),Got:=(a1.consumers.Got.set a0.C ((zh (za a1.consumers a0.C).Out (i64.wrap ((a1.consumers.Got.get a0.C)+1)) v1 (a1.p.Links.SSaid.get a0.C) a1.clock).getD default).1.Got),Closed:=(a1.consumers.Closed.set a0.C ((zh (za a1.consumers a0.C).Out (i64.wrap ((a1.consumers.Got.get a0.C)+1)) v1 (a1.p.Links.SSaid.get a0.C) a1.clock).getD default).1.Closed) } }))))
    (.bind (zik (za a1.consumers a0.C) v1) fun v2 =>
    (.ite (v2.2 != 0)
     (.leaf ((⟨v2.2,0⟩:Reply),a1))
     (.leaf ((⟨0,((zh (za a1.consumers a0.C).Out (i64.wrap ((a1.consumers.Got.get a0.C)+1)) v1 (a1.p.Links.SSaid.get a0.C) a1.clock).getD default).1.Got⟩:Reply),{ a1 with p:={ a1.p with Links:={ a1.p.Links with Said:=(a1.p.Links.Said.set a0.C ((zh (za a1.consumers a0.C).Out (i64.wrap ((a1.consumers.Got.get a0.C)+1)) v1 (a1.p.Links.SSaid.get a0.C) a1.clock).getD default).1.Said),Due:=(a1.p.Links.Due.set a0.C ((zh (za a1.consumers a0.C).Out (i64.wrap ((a1.consumers.Got.get a0.C)+1)) v1 (a1.p.Links.SSaid.get a0.C) a1.clock).getD default).1.Due),Got:=(a1.p.Links.Got.set a0.C ((zh (za a1.consumers a0.C).Out (i64.wrap ((a1.consumers.Got.get a0.C)+1)) v1 (a1.p.Links.SSaid.get a0.C) a1.clock).getD default).1.Got),Closed:=(a1.p.Links.Closed.set a0.C ((zh (za a1.consumers a0.C).Out (i64.wrap ((a1.consumers.Got.get a0.C)+1)) v1 (a1.p.Links.SSaid.get a0.C) a1.clock).getD default).1.Closed) } },consumers:=(zjh a1.consumers a0.C v2.1) }))))))))
  (.bind (zm8 (zc a1.p.Links a0.C).Out a0.Forged) fun v3 =>
  (.guard ((zh (zc a1.p.Links a0.C).Out (i64.wrap ((a1.p.Links.Got.get a0.C)+1)) v3 (a1.consumers.SSaid.get a0.C) a1.clock).isSome=true)
  (.ite (((zh (zc a1.p.Links a0.C).Out (i64.wrap ((a1.p.Links.Got.get a0.C)+1)) v3 (a1.consumers.SSaid.get a0.C) a1.clock).getD default).2 != 0)
   (.leaf ((⟨((zh (zc a1.p.Links a0.C).Out (i64.wrap ((a1.p.Links.Got.get a0.C)+1)) v3 (a1.consumers.SSaid.get a0.C) a1.clock).getD default).2,0⟩:Reply),a1))
   (.ite (a0.Back)
    (.guard ((za7 a1.p a0.C v3).isSome=true)
    (.ite (((za7 a1.p a0.C v3).getD default).2 != 0)
     (.leaf ((⟨((za7 a1.p a0.C v3).getD default).2,0⟩:Reply),a1))
     (.leaf ((⟨0,((zh (zc a1.p.Links a0.C).Out (i64.wrap ((a1.p.Links.Got.get a0.C)+1)) v3 (a1.consumers.SSaid.get a0.C) a1.clock).getD default).1.Got⟩:Reply),{ a1 with p:=((za7 a1.p a0.C v3).getD default).1,consumers:={ a1.consumers with Said:=(a1.consumers.Said.set a0.C ((zh (zc a1.p.Links a0.C).Out (i64.wrap ((a1.p.Links.Got.get a0.C)+1)) v3 (a1.consumers.SSaid.get a0.C) a1.clock).getD default).1.Said),Due:=(a1.consumers.Due.set a0.C ((zh (zc a1.p.Links a0.C).Out (i64.wrap ((a1.p.Links.Got.get a0.C)+1)) v3 (a1.consumers.SSaid.get a0.C) a1.clock).getD default).1.Due),Got:=(a1.consumers.Got.set a0.C ((zh (zc a1.p.Links a0.C).Out (i64.wrap ((a1.p.Links.Got.get a0.C)+1)) v3 (a1.consumers.SSaid.get a0.C) a1.clock).getD default).1.Got),Closed:=(a1.consumers.Closed.set a0.C ((zh (zc a1.p.Links a0.C).Out (i64.wrap ((a1.p.Links.Got.get a0.C)+1)) v3 (a1.consumers.SSaid.get a0.C) a1.clock).getD default).1.Closed) } }))))
    (.bind (zik (za a1.consumers a0.C) v3) fun v4 =>
    (.ite (v4.2 != 0)
     (.leaf ((⟨v4.2,0⟩:Reply),a1))
     (.leaf ((⟨0,((zh (zc a1.p.Links a0.C).Out (i64.wrap ((a1.p.Links.Got.get a0.C)+1)) v3 (a1.consumers.SSaid.get a0.C) a1.clock).getD default).1.Got⟩:Reply),{ a1 with p:={ a1.p with Links:={ a1.p.Links with Said:=(a1.p.Links.Said.set a0.C ((zh (zc a1.p.Links a0.C).Out (i64.wrap ((a1.p.Links.Got.get a0.C)+1)) v3 (a1.consumers.SSaid.get a0.C) a1.clock).getD default).1.Said),Due:=(a1.p.Links.Due.set a0.C ((zh (zc a1.p.Links a0.C).Out (i64.wrap ((a1.p.Links.Got.get a0.C)+1)) v3 (a1.consumers.SSaid.get a0.C) a1.clock).getD default).1.Due),Got:=(a1.p.Links.Got.set a0.C ((zh (zc a1.p.Links a0.C).Out (i64.wrap ((a1.p.Links.Got.get a0.C)+1)) v3 (a1.consumers.SSaid.get a0.C) a1.clock).getD default).1.Got),Closed:=(a1.p.Links.Closed.set a0.C ((zh (zc a1.p.Links a0.C).Out (i64.wrap ((a1.p.Links.Got.get a0.C)+1)) v3 (a1.consumers.SSaid.get a0.C) a1.clock).getD default).1.Closed) } },consumers:=(zjh a1.consumers a0.C v4.1) })))))))))))
def zf8 (a0:Deed) (a1:Wld):=(zgq a0 a1).run
def zlv:SpecT:=zw 1 (LQ.kp 0 0 (LQ.v (Par.ofLP deedL) (LP.q zqf))) 2 [.cells 99 159] (u2 zgq) default (LQ.v (Par.ofLP zzo) (LP.q zqf)) 1 [.cells 99 159]
theorem zsu:zg Tryz.prog 50 (zlv).spec :=
 sK (A:=⟨[],[],[],[[0,3,4],[0,3,4,5,6],[0,3,4,5,6,7,8],[0,3,4,5,6,7,8,37],[0,3,4,5,6,7,8],[0,3,4,5,6,7,8,9],[0,3,4,5,6,7,9,10],[0,3,4,5,6,7,9,10,66],[4],[0,3,4,5,6,7,9,70],[0,4,5,7,11,12],[0,4,5,7,11,12,83],[4],[4,7],[4],[4,5,6,7,10,13],[4,5,6,7,10,13,106],[4],[4,7],[4]],[]⟩) za2a fM Tryz.func50 (c:=(fb Tryz.f50)) (by kernel_rfl) (Lc:=1) trivial _ _ 7 _ _ _ _ _ _ [.pubN 0] (by rintro ⟨a0,a1⟩;kernel_rfl)
noncomputable def za2b:EnvT:=⟨Tryz.prog,zah [(82,zxw),(83,zqu),(84,zqs)]⟩
theorem za2c:(za2b).Ok:=zf ⟨z36,zx4,zx2,trivial⟩
def zho (a0:Deed) (a1:Wld): Tr (Reply×Wld) :=
 (.guard ((0:Int)≤a0.C∧(a0.C:Int) < 2)
 (.guard ((0:Int)≤a0.C∧(a0.C:Int) < 2)
 (.ite (a0.Back)
  (.bind (zlb (za a1.consumers a0.C).Out a0.N (a1.consumers.STime.get a0.C) (a1.consumers.SGot.get a0.C)) fun v1 =>
  (.ite (v1.2 != 0)
   (.leaf ((⟨v1.2,0⟩:Reply),a1))
   (.guard ((zcx a1.p a0.C).isSome=true)
   (.bind (zgc (za a1.consumers a0.C)) fun v2 =>
   (.leaf ((⟨0,0⟩:Reply),{ a1 with p:=((zcx a1.p a0.C).getD default),consumers:=(zjh a1.consumers a0.C v2) }))))))
  (.bind (zlb (zc a1.p.Links a0.C).Out a0.N (a1.p.Links.STime.get a0.C) (a1.p.Links.SGot.get a0.C)) fun v3 =>
  (.ite (v3.2 != 0)
   (.leaf ((⟨v3.2,0⟩:Reply),a1))
   (.guard ((zcx a1.p a0.C).isSome=true)
   (.bind (zgc (za a1.consumers a0.C)) fun v4 =>
   (.leaf ((⟨0,0⟩:Reply),{ a1 with p:=((zcx a1.p a0.C).getD default),consumers:=(zjh a1.consumers a0.C v4) })))))))))
def zgr (a0:Deed) (a1:Wld):=(zho a0 a1).run
def zmp:SpecT:=zw 1 (LQ.kp 0 0 (LQ.v (Par.ofLP deedL) (LP.q zqf))) 2 [.cells 99 159] (u2 zho) default (LQ.v (Par.ofLP zzo) (LP.q zqf)) 1 [.cells 99 159]
theorem zty:zg Tryz.prog 51 (zmp).spec :=
 sK (A:=⟨[],[],[],[[0,3,4],[0,3,4,5,6],[0,3,4,5,7,8],[0,3,4,5,7,8,33],[0,3,4,5,7,8],[0,3,4,5,10],[0,3,4,5,10,54],[4],[4,5],[4],[4]],[]⟩) za2c fM Tryz.func51 (c:=(fb Tryz.f51)) (by kernel_rfl) (Lc:=1) trivial _ _ 8 _ _ _ _ _ _ [.pubN 0] (by rintro ⟨a0,a1⟩;kernel_rfl)
noncomputable def za2d:EnvT:=⟨Tryz.prog,zah [(47,zsl),(48,zsk),(49,zvg),(50,zlv),(51,zmp),(52,ztr),(53,zqr)]⟩
theorem za2e:(za2d).Ok:=zf ⟨zy1,zy0,z17,zsu,zty,z0h,zx1,trivial⟩
def zgs (a0:Deed) (a1:Wld): Tr (Reply×Wld) :=
 (.ite ((decide (a0.Kind < 4))||(decide (a0.Kind > 12)))
  (.leaf ((⟨3,0⟩:Reply),a1))
  (.ite ((decide (a0.C < 0))||(decide (a0.C≥2)))
   (.leaf ((⟨4,0⟩:Reply),a1))
   (.guard ((0:Int)≤a0.C∧(a0.C:Int) < 2)
   (.ite ((a0.Kind != 4)&&(!(a1.consumers.On.get a0.C)))
    (.leaf ((⟨4,0⟩:Reply),a1))
    (.ite (a0.Kind==4)
     (.guard ((zan a1.p a0.C).isSome=true)
     (.ite (((zan a1.p a0.C).getD default).2 != 0)
      (.leaf ((⟨((zan a1.p a0.C).getD default).2,0⟩:Reply),a1))
      (.guard ((zg5 ((zan a1.p a0.C).getD default).1.Set ((zan a1.p a0.C).getD default).1.Height a1.clock).isSome=true)
      (.guard ((0:Int)≤a0.C∧(a0.C:Int) < 2)
      (.leaf ((⟨0,((zan a1.p a0.C).getD default).1.Height⟩:Reply),(⟨a1.clock,((zan a1.p a0.C).getD default).1,(zjh a1.consumers a0.C ((zg5 ((zan a1.p a0.C).getD default).1.Set ((zan a1.p a0.C).getD default).1.Height a1.clock).getD default)),(⟨(a1.heads.PHeight.set a0.C 0),(a1.heads.PTime.set a0.C 0),(a1.heads.PSaid.set a0.C 0),(a1.heads.PGot.set a0.C 0),(a1.heads.CHeight.set a0.C 0),(a1.heads.CTime.set a0.C 0),(a1.heads.CSaid.set a0.C 0),(a1.heads.CGot.set a0.C 0)⟩:zuw),a1.deeds⟩:Wld)))))))
     (.ite (a0.Kind==7)
      (.guard ((zz (za a1.consumers a0.C) a1.clock).isSome=true)
      (.ite (((zz (za a1.consumers a0.C) a1.clock).getD default).2==0)
       (.guard ((0:Int)≤a0.C∧(a0.C:Int) < 2)
       (.guard ((0:Int)≤a0.C∧(a0.C:Int) < 2)
       (.guard ((0:Int)≤1∧(1:Int) < 2)
       (.ite (((zz (za a1.consumers a0.C) a1.clock).getD default).2 != 0)
        (.leaf ((⟨((zz (za a1.consumers a0.C) a1.clock).getD default).2,0⟩:Reply),{ a1 with heads:={ a1.heads with CHeight:=(a1.heads.CHeight.set a0.C ((zz (za a1.consumers a0.C) a1.clock).getD default).1.Height),CTime:=(a1.heads.CTime.set a0.C ((zz (za a1.consumers a0.C) a1.clock).getD default).1.Time),CSaid:=(a1.heads.CSaid.set a0.C ((((zz (za a1.consumers a0.C) a1.clock).getD default).1.Out.Said.length:Nat):Int)),CGot:=(a1.heads.CGot.set a0.C (a1.p.Links.Got.get a0.C)) } }))
        (.leaf ((⟨0,0⟩:Reply),{ a1 with consumers:=(zjh a1.consumers a0.C ((zz (za a1.consumers a0.C) a1.clock).getD default).1),heads:={ a1.heads with CHeight:=(a1.heads.CHeight.set a0.C ((zz (za a1.consumers a0.C) a1.clock).getD default).1.Height),CTime:=(a1.heads.CTime.set a0.C ((zz (za a1.consumers a0.C) a1.clock).getD default).1.Time),CSaid:=(a1.heads.CSaid.set a0.C ((((zz (za a1.consumers a0.C) a1.clock).getD default).1.Out.Said.length:Nat):Int)),CGot:=(a1.heads.CGot.set a0.C (a1.p.Links.Got.get a0.C)) } }))))))
       (.ite (((zz (za a1.consumers a0.C) a1.clock).getD default).2 != 0)
        (.leaf ((⟨((zz (za a1.consumers a0.C) a1.clock).getD default).2,0⟩:Reply),a1))
        (.leaf ((⟨0,0⟩:Reply),{ a1 with consumers:=(zjh a1.consumers a0.C ((zz (za a1.consumers a0.C) a1.clock).getD default).1) })))))
      (.ite (a0.Kind==8)
       (.ite (a0.Back)
        (.guard ((0:Int)≤a0.C∧(a0.C:Int) < 2)
        (.guard ((0:Int)≤1∧(1:Int) < 2)
        (.guard ((0:Int)≤a0.C∧(a0.C:Int) < 2)
        (.ite (false)
         (.leaf ((⟨0,0⟩:Reply),{ a1 with p:={ a1.p with Links:={ a1.p.Links with SHeight:=(a1.p.Links.SHeight.set a0.C (a1.heads.CHeight.get a0.C)),STime:=(a1.p.Links.STime.set a0.C (a1.heads.CTime.get a0.C)),SSaid:=(a1.p.Links.SSaid.set a0.C (a1.heads.CSaid.get a0.C)),SGot:=(a1.p.Links.SGot.set a0.C (a1.heads.CGot.get a0.C)) } } }))
         (.leaf ((⟨0,0⟩:Reply),{ a1 with p:={ a1.p with Links:={ a1.p.Links with SHeight:=(a1.p.Links.SHeight.set a0.C (a1.heads.CHeight.get a0.C)),STime:=(a1.p.Links.STime.set a0.C (a1.heads.CTime.get a0.C)),SSaid:=(a1.p.Links.SSaid.set a0.C (a1.heads.CSaid.get a0.C)),SGot:=(a1.p.Links.SGot.set a0.C (a1.heads.CGot.get a0.C)) } },consumers:=(zjh a1.consumers a0.C (za a1.consumers a0.C)) }))))))
        (.guard ((0:Int)≤a0.C∧(a0.C:Int) < 2)
        (.guard ((0:Int)≤0∧(0:Int) < 2)
        (.ite (false)
         (.leaf ((⟨0,0⟩:Reply),a1))
         (.leaf ((⟨0,0⟩:Reply),{ a1 with consumers:=(zjh a1.consumers a0.C ({ ((za a1.consumers a0.C):Consumer) with Seen:=(⟨a1.heads.PHeight.get a0.C,a1.heads.PTime.get a0.C,a1.heads.PSaid.get a0.C,a1.heads.PGot.get a0.C⟩:Head) })) }))))))
       (.ite (a0.Kind==9)
        (.bind (zf8 a0 a1) fun v1 =>
        (.leaf (v1.1,v1.2)))
        (.ite (a0.Kind==10)
         (.bind (zgr a0 a1) fun v2 =>
         (.leaf (v2.1,v2.2)))
         (.ite (a0.Kind==11)
          (.guard ((zdy (za a1.consumers a0.C) a0.V a1.clock).isSome=true)
          (.ite (((zdy (za a1.consumers a0.C) a0.V a1.clock).getD default).2 != 0)
           (.leaf ((⟨((zdy (za a1.consumers a0.C) a0.V a1.clock).getD default).2,0⟩:Reply),a1))
           (.leaf ((⟨0,0⟩:Reply),{ a1 with consumers:=(zjh a1.consumers a0.C ((zdy (za a1.consumers a0.C) a0.V a1.clock).getD default).1) }))))
          (.ite (a0.Kind==12)
           (.guard ((zcv (za a1.consumers a0.C) a0.V a0.N a1.clock).isSome=true)
           (.ite (((zcv (za a1.consumers a0.C) a0.V a0.N a1.clock).getD default).2 != 0)
            (.leaf ((⟨((zcv (za a1.consumers a0.C) a0.V a0.N a1.clock).getD default).2,0⟩:Reply),a1))
            (.leaf ((⟨0,0⟩:Reply),{ a1 with consumers:=(zjh a1.consumers a0.C ((zcv (za a1.consumers a0.C) a0.V a0.N a1.clock).getD default).1) }))))
           (.ite (false)
            (.leaf ((⟨0,0⟩:Reply),a1))
            (.leaf ((⟨0,0⟩:Reply),{ a1 with consumers:=(zjh a1.consumers a0.C (za a1.consumers a0.C)) }))))))))))))))
def zf9 (a0:Deed) (a1:Wld):=(zgs a0 a1).run
def zlw:SpecT:=zw 1 (LQ.kp 0 0 (LQ.v (Par.ofLP deedL) (LP.q zqf))) 2 [.cells 99 159] (u2 zgs) default (LQ.v (Par.ofLP zzo) (LP.q zqf)) 1 [.cells 99 159]
theorem zsv:zg Tryz.prog 35 (zlw).spec :=
 sK (A:=⟨[],[],[],[[0,3,4],[0,3,4,17],[4],[0,3,4,26],[4],[0,3,4,5],[0,3,4,5,43],[4],[0,3,4,5,6],[0,3,4,5,6,7],[0,3,4,5,6,7,49],[0,3,4,5,6,7,49,50],[0,3,4,5,8,9],[0,3,4,5,8,9,63],[4],[0,3,4,8],[4,8],[4],[0,3,4,5,6,7,49,91],[0,3,4,5,6,7],[0,3,4,5,6,7,103],[4,5,6,7],[0,3,4,5,6,7,49,130],[0,3,4,5,6,7,133],[4,5,6,7],[4,5,6,7],[0,3,4,5,6,7,49,159],[4],[0,3,4,5,6,7,49,164],[4],[0,3,4,5,6,7,49,169],[4,5,6,7],[0,3,4,5,6,7,182],[4,5,6,7],[4,5,6,7,198],[4],[4],[4]],[]⟩) za2e fM Tryz.func35 (c:=(fb Tryz.f35)) (by kernel_rfl) (Lc:=1) trivial _ _ 7 _ _ _ _ _ _ [.pubN 0] (by rintro ⟨a0,a1⟩;kernel_rfl)
noncomputable def za2f:EnvT:=⟨Tryz.prog,zah [(30,zoa),(31,zls),(32,zvf),(33,zoc),(34,zlu),(35,zlw)]⟩
theorem za2g:(za2f).Ok:=zf ⟨zuz,zss,z14,zu0,zst,zsv,trivial⟩
def zmf (a0:Deed) (a1:Wld): Tr (Reply×Wld) :=
 (.ite (decide (a1.deeds≥600))
  (.leaf ((⟨6,0⟩:Reply),a1))
  (.ite (a0.Kind==1)
   (.bind (zhk a1.p a0.D a0.V a0.N) fun v1 =>
   (.ite (v1.2 != 0)
    (.leaf ((⟨v1.2,0⟩:Reply),{ a1 with deeds:=i64.wrap (a1.deeds+1) }))
    (.leaf ((⟨0,0⟩:Reply),{ a1 with p:=v1.1,deeds:=i64.wrap (a1.deeds+1) }))))
   (.ite (a0.Kind==2)
    (.guard ((zbe a1.p a0.D a0.V a0.N a1.clock).isSome=true)
    (.ite (((zbe a1.p a0.D a0.V a0.N a1.clock).getD default).2 != 0)
     (.leaf ((⟨((zbe a1.p a0.D a0.V a0.N a1.clock).getD default).2,0⟩:Reply),{ a1 with deeds:=i64.wrap (a1.deeds+1) }))
     (.leaf ((⟨0,0⟩:Reply),{ a1 with p:=((zbe a1.p a0.D a0.V a0.N a1.clock).getD default).1,deeds:=i64.wrap (a1.deeds+1) }))))
    (.ite (a0.Kind==3)
     (.bind (znz a1.p.Stake a0.V) fun v2 =>
     (.ite (v2.2 != 0)
      (.leaf ((⟨v2.2,0⟩:Reply),{ a1 with deeds:=i64.wrap (a1.deeds+1) }))
      (.leaf ((⟨0,0⟩:Reply),{ a1 with p:={ a1.p with Stake:=v2.1 },deeds:=i64.wrap (a1.deeds+1) }))))
     (.ite (a0.Kind==13)
      (.bind (zhm a1.p a0.V a0.N) fun v3 =>
      (.ite (v3.2 != 0)
       (.leaf ((⟨v3.2,0⟩:Reply),{ a1 with deeds:=i64.wrap (a1.deeds+1) }))
       (.leaf ((⟨0,0⟩:Reply),{ a1 with p:=v3.1,deeds:=i64.wrap (a1.deeds+1) }))))
      (.ite (a0.Kind==5)
       (.ite ((decide (a0.N < 1))||(decide (a0.N > (i64.wrap (1099511627736 - a1.clock)))))
        (.leaf ((⟨2,0⟩:Reply),{ a1 with deeds:=i64.wrap (a1.deeds+1) }))
        (.leaf ((⟨0,i64.wrap (a1.clock+a0.N)⟩:Reply),{ a1 with clock:=i64.wrap (a1.clock+a0.N),deeds:=i64.wrap (a1.deeds+1) })))
       (.ite (a0.Kind==6)
        (.bind (zf7 ({ a1 with deeds:=i64.wrap (a1.deeds+1) })) fun v4 =>
        (.leaf (v4.1,v4.2)))
        (.bind (zf9 a0 ({ a1 with deeds:=i64.wrap (a1.deeds+1) })) fun v5 =>
        (.leaf (v5.1,v5.2))))))))))
def ze (a0:Deed) (a1:Wld):=(zmf a0 a1).run
def zfx:SpecT:=zw 1 (LQ.kp 0 0 (LQ.v (Par.ofLP deedL) (LP.q zqf))) 2 [.cells 99 159] (u2 zmf) default (LQ.v (Par.ofLP zzo) (LP.q zqf)) 1 [.cells 99 159]
theorem zg7:zg Tryz.prog 17 (zfx).spec :=
 sK (A:=⟨[],[],[[1,0,0,1]],[[0,3,4],[0,3,4,7],[4],[0,3,4,11],[4],[0,3,4],[0,3,4],[0,3,4,6],[0,3,4,6,30],[4],[0,3,4,6,30,34],[0,4,5,6],[0,3,4,6,30,47],[0,4,5,6],[0,3,4,6,30,64],[0,4,5,6],[0,3,4,6,30,75],[0,4,5,6],[0,3,4,30,86],[0,3,4,100],[4],[0,4],[4],[0,3,4,116],[4],[0,4,5,6,121],[4],[4],[4]],[]⟩) za2g fM Tryz.func17 (c:=(fb Tryz.f17)) (by kernel_rfl) (Lc:=1) trivial _ _ 6 _ _ _ _ _ _ [.pubN 0] (by rintro ⟨a0,a1⟩;kernel_rfl)
end
