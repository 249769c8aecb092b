/-
  The functions, each by its tree.
-/
import Derived.Test.YtobfadhgiaphnaaGreatXAbFun
import Derived.Test.YtobfadhgiaphnaaGreatXAbStructs
import Derived.Test.YtobfadhgiaphnaaGreatXFBank
import Derived.Test.YtobfadhgiaphnaaGreatXFCodec
import Derived.Test.YtobfadhgiaphnaaGreatXFLine
import Derived.Test.YtobfadhgiaphnaaGreatXFRatio
import Derived.Test.YtobfadhgiaphnaaGreatXFRefA
import Derived.Test.YtobfadhgiaphnaaGreatXFRefB
import Derived.Test.YtobfadhgiaphnaaGreatXFRefC
import Derived.Test.YtobfadhgiaphnaaGreatXFacts
namespace Go.Proofs.YtobfadhgiaphnaaGreat.Ab
open Go Go.RowKit
set_option maxRecDepth 100000
set_option linter.unusedVariables false
set_option linter.unusedSimpArgs false
noncomputable section
def za3g:List (List Nat):=[[1,2],[1,2],[1,2],[1,2,16],[1,2,16,17],[1,2,3,16],[1,2,4,16],[1,2,16],[1,2,16],[1,2,5],[1,2,5,48,49,50],[1,2,5,48,49,50,51],[1,2,5,7,48,49,50],[1,2,5,48,49,50],[1,2,5,48,49,50],[1,2],[2]]
noncomputable def za3h:EnvT:=⟨Tryz.prog,zw [(56,zep),(76,zqh),(101,zho)]⟩
theorem za3i:(za3h).Ok:=zd ⟨zff,zwf,zj5,trivial⟩
def zcd (x0:Int) (x1 x2:za): Tr ((Int×za×za)⊕(za×za)) :=
 (.ite (decide (x0 < 2))
  (.guard ((0:Int)≤x0∧(x0:Int) < 2)
  (.guard ((0+Sl.len (.powers (x1.Links.Told.get x0)))*16≤140737488355328)
  (.guard ((0+Sl.len (.ints (x1.Links.Done.get x0)))*8≤140737488355328)
  (.guard ((zaj (⟨x1.Links.Said.get x0,x1.Links.Due.get x0,x1.Links.Got.get x0,x1.Links.Closed.get x0⟩:zcl)).isSome=true)
  (.leaf (.inl (IntKind.i64.wrap (x0+1),{ x1 with Links:={ x1.Links with Told:=(x1.Links.Told.set x0 (x1.Links.Told.get x0)),Done:=(x1.Links.Done.set x0 (x1.Links.Done.get x0)),Said:=(x1.Links.Said.set x0 (((zaj (⟨x1.Links.Said.get x0,x1.Links.Due.get x0,x1.Links.Got.get x0,x1.Links.Closed.get x0⟩:zcl)).getD default).Said)),Due:=(x1.Links.Due.set x0 (((zaj (⟨x1.Links.Said.get x0,x1.Links.Due.get x0,x1.Links.Got.get x0,x1.Links.Closed.get x0⟩:zcl)).getD default).Due)),Got:=(x1.Links.Got.set x0 (((zaj (⟨x1.Links.Said.get x0,x1.Links.Due.get x0,x1.Links.Got.get x0,x1.Links.Closed.get x0⟩:zcl)).getD default).Got)),Closed:=(x1.Links.Closed.set x0 (((zaj (⟨x1.Links.Said.get x0,x1.Links.Due.get x0,x1.Links.Got.get x0,x1.Links.Closed.get x0⟩:zcl)).getD default).Closed)) } },x2)))))))
  (.leaf (.inr (x1,x2))))
def zij (x0:Int) (x1 x2:za):=zbp (fun s:Int×za×za=>(zcd s.1 s.2.1 s.2.2).run) (x0,x1,x2)
def za96:Ann:=⟨[],[],[],za3g,[]⟩
def za97:=EndD.mk (LQ.map (LQ.kp 0 0 (LQ.kp 1 0 (LQ.v intP (LQ.v intP (LQ.v intP (LQ.seq (LP.q bankL) (LQ.seq (LP.q validatorsL) (LQ.seq (LP.q (a4L (a6L (LP.one intP)))) (LQ.k (LQ.c (.own 2)) (LQ.v intP (LQ.k (LQ.c (.own 3)) (LQ.seq (LP.q linksL) (LQ.seq (LP.q meterL) (LQ.v zal (LQ.seq (LP.q providerL) (LQ.v zca (Par.q zg))))))))))))))))) (fun x=>(x.1,(⟨x.2.1,x.2.2.1,(⟨x.2.2.2.1,(d4 x).1,(d4 x).2.1,(d8 x).2.2.2.1,(d4 x).2.2.1⟩:Stake),(d12 x),(d4 x).2.2.2.1,(d8 x).1,(d8 x).2.1⟩:za),(d8 x).2.2.1)) (fun y=>(y.1,y.2.1.Height,y.2.1.Time,y.2.1.Stake.Bank,y.2.1.Stake.Validators,y.2.1.Stake.Shares,y.2.1.Stake.Next,y.2.1.Links,y.2.1.Meter,y.2.1.Queue,y.2.2,y.2.1.Stake.Waits,y.2.1.Set)) (fun _=>rfl)) ⟨[1,2,16],[.nilcell 1 63 127 (.waits []),.nilcell 1 65 154 (.powers [])]⟩ [.cells 63 97,.cells 63 97,.rows 127,.rows 154]
def zavp:=EndD.mk (LQ.map (LQ.kp 0 0 (LQ.kp 1 0 (LQ.v intP (LQ.v intP (LQ.seq (LP.q bankL) (LQ.seq (LP.q validatorsL) (LQ.seq (LP.q (a4L (a6L (LP.one intP)))) (LQ.k (LQ.c (.own 2)) (LQ.v intP (LQ.k (LQ.c (.own 3)) (LQ.seq (LP.q linksL) (LQ.seq (LP.q meterL) (LQ.v zal (LQ.seq (LP.q providerL) (LQ.v zca (Par.q zg)))))))))))))))) (fun x=>((⟨x.1,x.2.1,(⟨x.2.2.1,x.2.2.2.1,(d4 x).1,(d8 x).2.2.1,(d4 x).2.1⟩:Stake),(d8 x).2.2.2,(d4 x).2.2.1,(d4 x).2.2.2.1,(d8 x).1⟩:za),(d8 x).2.1)) (fun y=>(y.1.Height,y.1.Time,y.1.Stake.Bank,y.1.Stake.Validators,y.1.Stake.Shares,y.1.Stake.Next,y.1.Links,y.1.Meter,y.1.Queue,y.2,y.1.Stake.Waits,y.1.Set)) (fun _=>rfl)) ⟨[1,2],[.nilcell 1 63 127 (.waits []),.nilcell 1 65 154 (.powers [])]⟩ [.cells 63 97,.cells 63 97,.rows 127,.rows 154]
def zazw:St→Option LR:=L1 67 10 0 za97 (.exit 0) zavp (u3 zcd)
def zs152a:=sub (fb Tryz.f53) [0,1,0,1,1,1]
theorem za98:zk (za3h).env 0 zs152a zazw :=
 zb2 (A:=za96) za3i fM trivial (k:=zab zs152a) (by kernel_rfl) rfl (by rintro ⟨x0,x1,x2⟩;kernel_rfl)
def zfk (x0:(List Asked)) (x1 x2:Int) (x3 x4:za) (x5:(List Asked)): Tr (((List Asked)×Int×Int×za×za×(List Asked))⊕(za×za×(List Asked))) :=
 (.ite (decide (x2 < x1))
  (.guard ((0:Int)≤x2∧x2 < ((Sl.len (.asked x0):Nat):Int))
  (.guard ((za6 ((x0.getD x2.toNat default).P)).isSome=true)
  (.guard ((Sl.len (.asked x5)+Sl.len (.asked [(⟨(x0.getD x2.toNat default).C,((za6 ((x0.getD x2.toNat default).P)).getD default)⟩:Asked)]))*88≤140737488355328)
  (.leaf (.inl (x0,x1,IntKind.i64.wrap (x2+1),x3,x4,x5++[(⟨(x0.getD x2.toNat default).C,((za6 ((x0.getD x2.toNat default).P)).getD default)⟩:Asked)]))))))
  (.leaf (.inr (x3,x4,x5))))
def zny (x0:(List Asked)) (x1 x2:Int) (x3 x4:za) (x5:(List Asked)):=zbp (fun s:(List Asked)×Int×Int×za×za×(List Asked)=>(zfk s.1 s.2.1 s.2.2.1 s.2.2.2.1 s.2.2.2.2.1 s.2.2.2.2.2).run) (x0,x1,x2,x3,x4,x5)
def za99:Ann:=⟨[],[],[],za3g,[]⟩
def zbaa:=EndD.mk (LQ.map (LQ.kp 0 0 (LQ.kp 1 0 (LQ.k (LQ.c (.own 2)) (LQ.v zal (LQ.v intP (LQ.v intP (LQ.v intP (LQ.v intP (LQ.seq (LP.q bankL) (LQ.seq (LP.q validatorsL) (LQ.seq (LP.q (a4L (a6L (LP.one intP)))) (LQ.k (LQ.c (.own 3)) (LQ.v intP (LQ.k (LQ.c (.own 4)) (LQ.seq (LP.q linksL) (LQ.seq (LP.q meterL) (LQ.v zal (LQ.seq (LP.q providerL) (LQ.v zal (LQ.v zca (Par.q zg))))))))))))))))))))) (fun x=>(x.1,x.2.1,x.2.2.1,(⟨x.2.2.2.1,(d4 x).1,(⟨(d4 x).2.1,(d4 x).2.2.1,(d4 x).2.2.2.1,(d12 x).2.2.1,(d8 x).1⟩:Stake),(d12 x).2.2.2,(d8 x).2.1,(d8 x).2.2.1,(d8 x).2.2.2.1⟩:za),(d12 x).1,(d12 x).2.1)) (fun y=>(y.1,y.2.1,y.2.2.1,y.2.2.2.1.Height,y.2.2.2.1.Time,y.2.2.2.1.Stake.Bank,y.2.2.2.1.Stake.Validators,y.2.2.2.1.Stake.Shares,y.2.2.2.1.Stake.Next,y.2.2.2.1.Links,y.2.2.2.1.Meter,y.2.2.2.1.Queue,(d4 y).1,(d4 y).2,y.2.2.2.1.Stake.Waits,y.2.2.2.1.Set)) (fun _=>rfl)) ⟨[1,2,5,48,49,50],[.nilcell 1 63 127 (.waits []),.nilcell 1 65 154 (.powers []),.nilown 5 112 (.asked []),.pub 48,.nilsl 48 (.asked [])]⟩ [.cells 63 97,.cells 63 97,.rows 112,.rows 127,.rows 154]
def zavq:=EndD.mk (LQ.map (LQ.kp 0 0 (LQ.kp 1 0 (LQ.k (LQ.c (.own 2)) (LQ.v intP (LQ.v intP (LQ.seq (LP.q bankL) (LQ.seq (LP.q validatorsL) (LQ.seq (LP.q (a4L (a6L (LP.one intP)))) (LQ.k (LQ.c (.own 3)) (LQ.v intP (LQ.k (LQ.c (.own 4)) (LQ.seq (LP.q linksL) (LQ.seq (LP.q meterL) (LQ.v zal (LQ.seq (LP.q providerL) (LQ.v zal (LQ.v zca (Par.q zg)))))))))))))))))) (fun x=>((⟨x.1,x.2.1,(⟨x.2.2.1,x.2.2.2.1,(d4 x).1,(d8 x).2.2.2.1,(d4 x).2.1⟩:Stake),(d12 x),(d4 x).2.2.1,(d4 x).2.2.2.1,(d8 x).1⟩:za),(d8 x).2.1,(d8 x).2.2.1)) (fun y=>(y.1.Height,y.1.Time,y.1.Stake.Bank,y.1.Stake.Validators,y.1.Stake.Shares,y.1.Stake.Next,y.1.Links,y.1.Meter,y.1.Queue,y.2.1,y.2.2,y.1.Stake.Waits,y.1.Set)) (fun _=>rfl)) ⟨[1,2,5],[.nilcell 1 63 127 (.waits []),.nilcell 1 65 154 (.powers []),.nilown 5 112 (.asked [])]⟩ [.cells 63 97,.cells 63 97,.rows 112,.rows 127,.rows 154]
def zazx:St→Option LR:=L1 67 10 0 zbaa (.exit 2) zavq (u6 zfk)
def zs152b:=sub (fb Tryz.f53) [0,1,0,1,1,1,1,1]
theorem zbab:zk (za3h).env 0 zs152b zazx :=
 zb2 (A:=za99) za3i fM trivial (k:=zab zs152b) (by kernel_rfl) rfl (by rintro ⟨x0,x1,x2,x3,x4,x5⟩;kernel_rfl)
def znl (a0:za): Tr (za) :=
 (.bind (zct a0.Stake) fun v1 =>
 (.guard ((0+Sl.len (.powers a0.Set))*16≤140737488355328)
 (.bind (zij 0 ({ a0 with Stake:=v1 }) (default:za)) fun v2 =>
 (.bind (zny v2.1.Queue ((v2.1.Queue.length:Nat):Int) 0 v2.1 v2.2 []) fun v3 =>
 (.leaf ({ v3.1 with Queue:=v3.2.2 }))))))
def zl3 (a0:za):=(znl a0).run
def zun:SpecT:=zm 0 (Par.q (Par.ofLP providerL)) 1 [] znl default (Par.q (Par.ofLP providerL)) 1 []
theorem z34:ze Tryz.prog 53 (zun).spec :=
 sK (A:=⟨[([0,1,0,1,1,1],zazw),([0,1,0,1,1,1,1,1],zazx)],[],[],za3g,[]⟩) za3i fM Tryz.func53 (c:=(fb Tryz.f53)) (by kernel_rfl) (Lc:=0) ⟨za98,zbab,trivial⟩ _ _ 10 _ _ _ _ _ _ [.pubB 2] (by rintro a0;kernel_rfl)
def za3j:List (List Nat):=[[1,2],[1,2],[1,2],[1,2,16],[1,2,16,17],[1,2,3,16],[1,2,4,16],[1,2,16],[1,2,16],[1,2,5],[1,2,5,48,49,50],[1,2,5,48,49,50,51],[1,2,5,7,48,49,50],[1,2,5,48,49,50],[1,2,5,48,49,50],[1,2],[2]]
noncomputable def za3k:EnvT:=⟨Tryz.prog,zw [(56,zep),(76,zqh),(101,zho)]⟩
theorem za3l:(za3k).Ok:=zd ⟨zff,zwf,zj5,trivial⟩
def zbl (x0:Int) (x1 x2:za): Tr ((Int×za×za)⊕(za×za)) :=
 (.ite (decide (x0 < 2))
  (.guard ((0:Int)≤x0∧(x0:Int) < 2)
  (.guard ((0+Sl.len (.powers (x1.Links.Told.get x0)))*16≤140737488355328)
  (.guard ((0+Sl.len (.ints (x1.Links.Done.get x0)))*8≤140737488355328)
  (.guard ((zaj (⟨x1.Links.Said.get x0,x1.Links.Due.get x0,x1.Links.Got.get x0,x1.Links.Closed.get x0⟩:zcl)).isSome=true)
  (.leaf (.inl (IntKind.i64.wrap (x0+1),{ x1 with Links:={ x1.Links with Told:=(x1.Links.Told.set x0 (x1.Links.Told.get x0)),Done:=(x1.Links.Done.set x0 (x1.Links.Done.get x0)),Said:=(x1.Links.Said.set x0 (((zaj (⟨x1.Links.Said.get x0,x1.Links.Due.get x0,x1.Links.Got.get x0,x1.Links.Closed.get x0⟩:zcl)).getD default).Said)),Due:=(x1.Links.Due.set x0 (((zaj (⟨x1.Links.Said.get x0,x1.Links.Due.get x0,x1.Links.Got.get x0,x1.Links.Closed.get x0⟩:zcl)).getD default).Due)),Got:=(x1.Links.Got.set x0 (((zaj (⟨x1.Links.Said.get x0,x1.Links.Due.get x0,x1.Links.Got.get x0,x1.Links.Closed.get x0⟩:zcl)).getD default).Got)),Closed:=(x1.Links.Closed.set x0 (((zaj (⟨x1.Links.Said.get x0,x1.Links.Due.get x0,x1.Links.Got.get x0,x1.Links.Closed.get x0⟩:zcl)).getD default).Closed)) } },x2)))))))
  (.leaf (.inr (x1,x2))))
def zgo (x0:Int) (x1 x2:za):=zbp (fun s:Int×za×za=>(zbl s.1 s.2.1 s.2.2).run) (x0,x1,x2)
def zbac:Ann:=⟨[],[],[],za3j,[]⟩
def zbad:=EndD.mk (LQ.map (LQ.kp 0 0 (LQ.kp 1 0 (LQ.v intP (LQ.v intP (LQ.v intP (LQ.seq (LP.q bankL) (LQ.seq (LP.q validatorsL) (LQ.seq (LP.q (a4L (a6L (LP.one intP)))) (LQ.k (LQ.c (.own 2)) (LQ.v intP (LQ.k (LQ.c (.own 3)) (LQ.seq (LP.q linksL) (LQ.seq (LP.q meterL) (LQ.v zal (LQ.seq (LP.q providerL) (LQ.v zca (Par.q zg))))))))))))))))) (fun x=>(x.1,(⟨x.2.1,x.2.2.1,(⟨x.2.2.2.1,(d4 x).1,(d4 x).2.1,(d8 x).2.2.2.1,(d4 x).2.2.1⟩:Stake),(d12 x),(d4 x).2.2.2.1,(d8 x).1,(d8 x).2.1⟩:za),(d8 x).2.2.1)) (fun y=>(y.1,y.2.1.Height,y.2.1.Time,y.2.1.Stake.Bank,y.2.1.Stake.Validators,y.2.1.Stake.Shares,y.2.1.Stake.Next,y.2.1.Links,y.2.1.Meter,y.2.1.Queue,y.2.2,y.2.1.Stake.Waits,y.2.1.Set)) (fun _=>rfl)) ⟨[1,2,16],[.nilcell 1 63 127 (.waits []),.nilcell 1 65 154 (.powers [])]⟩ [.cells 63 97,.cells 63 97,.rows 127,.rows 154]
def zavr:=EndD.mk (LQ.map (LQ.kp 0 0 (LQ.kp 1 0 (LQ.v intP (LQ.v intP (LQ.seq (LP.q bankL) (LQ.seq (LP.q validatorsL) (LQ.seq (LP.q (a4L (a6L (LP.one intP)))) (LQ.k (LQ.c (.own 2)) (LQ.v intP (LQ.k (LQ.c (.own 3)) (LQ.seq (LP.q linksL) (LQ.seq (LP.q meterL) (LQ.v zal (LQ.seq (LP.q providerL) (LQ.v zca (Par.q zg)))))))))))))))) (fun x=>((⟨x.1,x.2.1,(⟨x.2.2.1,x.2.2.2.1,(d4 x).1,(d8 x).2.2.1,(d4 x).2.1⟩:Stake),(d8 x).2.2.2,(d4 x).2.2.1,(d4 x).2.2.2.1,(d8 x).1⟩:za),(d8 x).2.1)) (fun y=>(y.1.Height,y.1.Time,y.1.Stake.Bank,y.1.Stake.Validators,y.1.Stake.Shares,y.1.Stake.Next,y.1.Links,y.1.Meter,y.1.Queue,y.2,y.1.Stake.Waits,y.1.Set)) (fun _=>rfl)) ⟨[1,2],[.nilcell 1 63 127 (.waits []),.nilcell 1 65 154 (.powers [])]⟩ [.cells 63 97,.cells 63 97,.rows 127,.rows 154]
def zazy:St→Option LR:=L1 67 10 0 zbad (.exit 0) zavr (u3 zbl)
def zs153a:=sub (fb Tryz.f53) [0,1,0,1,1,1]
theorem zbae:zk (za3k).env 0 zs153a zazy :=
 zb2 (A:=zbac) za3l fM trivial (k:=zab zs153a) (by kernel_rfl) rfl (by rintro ⟨x0,x1,x2⟩;kernel_rfl)
def zeh (x0:(List Asked)) (x1 x2:Int) (x3 x4:za) (x5:(List Asked)): Tr (((List Asked)×Int×Int×za×za×(List Asked))⊕(za×za×(List Asked))) :=
 (.ite (decide (x2 < x1))
  (.guard ((0:Int)≤x2∧x2 < ((Sl.len (.asked x0):Nat):Int))
  (.guard ((za6 ((x0.getD x2.toNat default).P)).isSome=true)
  (.guard ((Sl.len (.asked x5)+Sl.len (.asked [(⟨(x0.getD x2.toNat default).C,((za6 ((x0.getD x2.toNat default).P)).getD default)⟩:Asked)]))*88≤140737488355328)
  (.leaf (.inl (x0,x1,IntKind.i64.wrap (x2+1),x3,x4,x5++[(⟨(x0.getD x2.toNat default).C,((za6 ((x0.getD x2.toNat default).P)).getD default)⟩:Asked)]))))))
  (.leaf (.inr (x3,x4,x5))))
def zmc (x0:(List Asked)) (x1 x2:Int) (x3 x4:za) (x5:(List Asked)):=zbp (fun s:(List Asked)×Int×Int×za×za×(List Asked)=>(zeh s.1 s.2.1 s.2.2.1 s.2.2.2.1 s.2.2.2.2.1 s.2.2.2.2.2).run) (x0,x1,x2,x3,x4,x5)
def zbaf:Ann:=⟨[],[],[],za3j,[]⟩
def zbag:=EndD.mk (LQ.map (LQ.kp 0 0 (LQ.kp 1 0 (LQ.k (LQ.c (.own 2)) (LQ.v zal (LQ.v intP (LQ.v intP (LQ.v intP (LQ.v intP (LQ.seq (LP.q bankL) (LQ.seq (LP.q validatorsL) (LQ.seq (LP.q (a4L (a6L (LP.one intP)))) (LQ.k (LQ.c (.own 3)) (LQ.v intP (LQ.k (LQ.c (.own 4)) (LQ.seq (LP.q linksL) (LQ.seq (LP.q meterL) (LQ.v zal (LQ.seq (LP.q providerL) (LQ.v zal (LQ.v zca (Par.q zg))))))))))))))))))))) (fun x=>(x.1,x.2.1,x.2.2.1,(⟨x.2.2.2.1,(d4 x).1,(⟨(d4 x).2.1,(d4 x).2.2.1,(d4 x).2.2.2.1,(d12 x).2.2.1,(d8 x).1⟩:Stake),(d12 x).2.2.2,(d8 x).2.1,(d8 x).2.2.1,(d8 x).2.2.2.1⟩:za),(d12 x).1,(d12 x).2.1)) (fun y=>(y.1,y.2.1,y.2.2.1,y.2.2.2.1.Height,y.2.2.2.1.Time,y.2.2.2.1.Stake.Bank,y.2.2.2.1.Stake.Validators,y.2.2.2.1.Stake.Shares,y.2.2.2.1.Stake.Next,y.2.2.2.1.Links,y.2.2.2.1.Meter,y.2.2.2.1.Queue,(d4 y).1,(d4 y).2,y.2.2.2.1.Stake.Waits,y.2.2.2.1.Set)) (fun _=>rfl)) ⟨[1,2,5,48,49,50],[.nilcell 1 63 127 (.waits []),.nilcell 1 65 154 (.powers []),.nilown 5 112 (.asked []),.pub 48,.nilsl 48 (.asked [])]⟩ [.cells 63 97,.cells 63 97,.rows 112,.rows 127,.rows 154]
def zavs:=EndD.mk (LQ.map (LQ.kp 0 0 (LQ.kp 1 0 (LQ.k (LQ.c (.own 2)) (LQ.v intP (LQ.v intP (LQ.seq (LP.q bankL) (LQ.seq (LP.q validatorsL) (LQ.seq (LP.q (a4L (a6L (LP.one intP)))) (LQ.k (LQ.c (.own 3)) (LQ.v intP (LQ.k (LQ.c (.own 4)) (LQ.seq (LP.q linksL) (LQ.seq (LP.q meterL) (LQ.v zal (LQ.seq (LP.q providerL) (LQ.v zal (LQ.v zca (Par.q zg)))))))))))))))))) (fun x=>((⟨x.1,x.2.1,(⟨x.2.2.1,x.2.2.2.1,(d4 x).1,(d8 x).2.2.2.1,(d4 x).2.1⟩:Stake),(d12 x),(d4 x).2.2.1,(d4 x).2.2.2.1,(d8 x).1⟩:za),(d8 x).2.1,(d8 x).2.2.1)) (fun y=>(y.1.Height,y.1.Time,y.1.Stake.Bank,y.1.Stake.Validators,y.1.Stake.Shares,y.1.Stake.Next,y.1.Links,y.1.Meter,y.1.Queue,y.2.1,y.2.2,y.1.Stake.Waits,y.1.Set)) (fun _=>rfl)) ⟨[1,2,5],[.nilcell 1 63 127 (.waits []),.nilcell 1 65 154 (.powers []),.nilown 5 112 (.asked [])]⟩ [.cells 63 97,.cells 63 97,.rows 112,.rows 127,.rows 154]
def zazz:St→Option LR:=L1 67 10 0 zbag (.exit 2) zavs (u6 zeh)
def zs153b:=sub (fb Tryz.f53) [0,1,0,1,1,1,1,1]
theorem zbah:zk (za3k).env 0 zs153b zazz :=
 zb2 (A:=zbaf) za3l fM trivial (k:=zab zs153b) (by kernel_rfl) rfl (by rintro ⟨x0,x1,x2,x3,x4,x5⟩;kernel_rfl)
def zkn (a0:za): Tr (za) :=
 (.bind (zct a0.Stake) fun v1 =>
 (.guard ((0+Sl.len (.powers a0.Set))*16≤140737488355328)
 (.bind (zgo 0 ({ a0 with Stake:=v1 }) (default:za)) fun v2 =>
 (.bind (zmc v2.1.Queue ((v2.1.Queue.length:Nat):Int) 0 v2.1 v2.2 []) fun v3 =>
 (.leaf ({ v3.1 with Queue:=v3.2.2 }))))))
def za0 (a0:za):=(zkn a0).run
def zbq:SpecT:=zm 0 (Par.q (Par.ofLP providerL)) 1 [] zkn default (LQ.map (LQ.seq (LQ.agg (LQ.v intP (LQ.v intP (LQ.seq (LP.q bankL) (LQ.seq (LP.q validatorsL) (LQ.seq (LP.q (a4L (a6L (LP.one intP)))) (LQ.k (LQ.c (.own 0)) (LQ.v intP (LQ.k (LQ.c (.own 1)) (LQ.seq (LP.q linksL) (LQ.skipR (LP.q meterL) (LQ.c (.own 2))))))))))))) (LQ.v zca (LQ.v zg (Par.q zal)))) (fun x=>(⟨x.1.1,x.1.2.1,(⟨x.1.2.2.1,x.1.2.2.2.1,x.1.2.2.2.2.1,x.2.1,x.1.2.2.2.2.2.1⟩:Stake),x.2.2.1,x.1.2.2.2.2.2.2.1,x.1.2.2.2.2.2.2.2,x.2.2.2⟩:za)) (fun y=>((y.Height,y.Time,y.Stake.Bank,y.Stake.Validators,y.Stake.Shares,y.Stake.Next,y.Links,y.Meter),y.Stake.Waits,y.Set,y.Queue)) (fun _=>rfl)) 1 [.rows 127,.rows 154,.rows 112]
theorem zce:ze Tryz.prog 53 (zbq).spec :=
 sK (A:=⟨[([0,1,0,1,1,1],zazy),([0,1,0,1,1,1,1,1],zazz)],[],[],za3j,[]⟩) za3l fM Tryz.func53 (c:=(fb Tryz.f53)) (by kernel_rfl) (Lc:=0) ⟨zbae,zbah,trivial⟩ _ _ 10 _ _ _ _ _ _ [] (by rintro a0;kernel_rfl)
def zavt:List (List Nat):=[[1],[1,39],[2],[1,41,42],[1,41,42,43],[1,4,41,42],[1,4,5,41,42],[1,4,5,41,42,46,47,48],[1,4,5,41,42,46,47,48,49],[1,4,5,7,41,42,46,47,48],[1,4,7,41,42,46,47,48,58],[2],[1,4,5,41,42,46,47,48],[1,4,5,41,42,46,47,48],[1,41,42,90],[2],[1,41,42],[1,93,94,95],[1,93,94,95,96],[1,9,93,94,95],[1,93,94,95,127],[2],[1,93,94,95],[2]]
noncomputable def zavu:EnvT:=⟨Tryz.prog,zw [(96,znf),(97,z32),(75,zh7),(98,zhn)]⟩
theorem zavv:(zavu).Ok:=zd ⟨zqu,z8f,zi8,zj3,trivial⟩
def zfl (x0:Int) (x1:Links) (x2:Int) (x3:(List Int)) (x4 x5:Int) (x6:za) (x7:Link): Tr ((Int×Links×Int×(List Int)×Int×Int×za×Link)⊕((Bool)⊕(Links×Int×za×Link))) :=
 (.ite (decide (x5 < x4))
  (.guard ((0:Int)≤x5∧x5 < ((Sl.len (.ints x3):Nat):Int))
  (.ite ((decide ((x3.getD x5.toNat 0)≤x0))||(decide ((x3.getD x5.toNat 0) > 5)))
   (.leaf (.inr (.inl false)))
   (.leaf (.inl (x3.getD x5.toNat 0,x1,x2,x3,x4,IntKind.i64.wrap (x5+1),x6,x7)))))
  (.leaf (.inr (.inr (x1,x2,x6,x7)))))
def znz (x0:Int) (x1:Links) (x2:Int) (x3:(List Int)) (x4 x5:Int) (x6:za) (x7:Link):=zbp (fun s:Int×Links×Int×(List Int)×Int×Int×za×Link=>(zfl s.1 s.2.1 s.2.2.1 s.2.2.2.1 s.2.2.2.2.1 s.2.2.2.2.2.1 s.2.2.2.2.2.2.1 s.2.2.2.2.2.2.2).run) (x0,x1,x2,x3,x4,x5,x6,x7)
def zbai:Ann:=⟨[],[],[],zavt,[]⟩
def zbaj:=EndD.mk (LQ.kp 0 0 (LQ.kp 1 0 (LQ.v intP (LQ.v (Par.ofLP linksL) (LQ.v intP (LQ.v zbc (LQ.v intP (LQ.v intP (LQ.seq (LP.q providerL) (LP.q zat9)))))))))) ⟨[1,4,5,41,42,46,47,48],[.pub 46,.nilsl 46 (.ints [])]⟩ [.cells 63 97,.cells 57 14]
def zavw:=EndD.mk (Par.q boolP) ⟨[2],[]⟩ []
def zavx:=EndD.mk (LQ.kp 0 0 (LQ.kp 1 0 (LQ.v (Par.ofLP linksL) (LQ.v intP (LQ.seq (LP.q providerL) (LP.q zat9)))))) ⟨[1,4,41,42],[]⟩ [.cells 63 97,.cells 57 14]
def zaz0:St→Option LR:=L2 129 4 0 zbaj .ret zavw (.exit 2) zavx (u8 zfl)
def zs155a:=sub (fb Tryz.f51) [0,1,0,1,1,0,0,1,1,0,0,1,0,1,1]
theorem zbak:zk (zavu).env 0 zs155a zaz0 :=
 zkf (A:=zbai) zavv fM trivial (k:=zab zs155a) (by kernel_rfl) rfl rfl (by rintro ⟨x0,x1,x2,x3,x4,x5,x6,x7⟩;kernel_rfl)
def zcf (x0:Links) (x1:Int) (x2:za): Tr ((Links×Int×za)⊕((Bool)⊕(za))) :=
 (.ite (decide (x1 < 2))
  (.guard ((0:Int)≤x1∧(x1:Int) < 2)
  (.two (znz (-1) x0 x1 (x0.Done.get x1) (((x0.Done.get x1).length:Nat):Int) 0 x2 (⟨x0.On.get x1,x0.Gone.get x1,x0.Base.get x1,x0.Told.get x1,x0.Fresh.get x1,x0.Done.get x1,(⟨x0.Said.get x1,x0.Due.get x1,x0.Got.get x1,x0.Closed.get x1⟩:zcl),(⟨x0.SHeight.get x1,x0.STime.get x1,x0.SSaid.get x1,x0.SGot.get x1⟩:Head)⟩:Link)) (fun v2 =>
   (.leaf (.inr (.inl v2)))) (fun v3 =>
   (.guard (((((v3.2.2.2.On&&v3.2.2.2.Gone)||(decide (v3.2.2.2.Base < 0)))||(decide (v3.2.2.2.Base > v3.2.2.1.Height)))=false→((zds v3.2.2.2.Told).isSome=true)∧True))
   (.guard ((((((v3.2.2.2.On&&v3.2.2.2.Gone)||(decide (v3.2.2.2.Base < 0)))||(decide (v3.2.2.2.Base > v3.2.2.1.Height)))||(!((zds v3.2.2.2.Told).getD default)))=false→((zby v3.2.2.2.Out).isSome=true)∧True))
   (.ite (((((v3.2.2.2.On&&v3.2.2.2.Gone)||(decide (v3.2.2.2.Base < 0)))||(decide (v3.2.2.2.Base > v3.2.2.1.Height)))||(!((zds v3.2.2.2.Told).getD default)))||(!((zby v3.2.2.2.Out).getD default)))
    (.leaf (.inr (.inl false)))
    (.leaf (.inl (v3.1,IntKind.i64.wrap (v3.2.1+1),v3.2.2.1)))))))))
  (.leaf (.inr (.inr x2))))
def zik (x0:Links) (x1:Int) (x2:za):=zbp (fun s:Links×Int×za=>(zcf s.1 s.2.1 s.2.2).run) (x0,x1,x2)
def zbal:Ann:=⟨[([0,1,0,1,1,0,0,1,1,0,0,1,0,1,1],zaz0)],[],[],zavt,[]⟩
def zbam:=EndD.mk (LQ.kp 0 0 (LQ.v (Par.ofLP linksL) (LQ.v intP (LP.q providerL)))) ⟨[1,41,42],[]⟩ [.cells 63 97]
def zavy:=EndD.mk (Par.q boolP) ⟨[2],[]⟩ []
def zavz:=EndD.mk (LQ.kp 0 0 (LP.q providerL)) ⟨[1],[]⟩ [.cells 63 97]
def zaz1:St→Option LR:=L2 129 4 0 zbam .ret zavy (.exit 0) zavz (u3 zcf)
def zs155b:=sub (fb Tryz.f51) [0,1,0,1,1]
theorem zban:zk (zavu).env 0 zs155b zaz1 :=
 zkf (A:=zbal) zavv fM ⟨zbak,trivial⟩ (k:=zab zs155b) (by kernel_rfl) rfl rfl (by rintro ⟨x0,x1,x2⟩;kernel_rfl)
def zcg (x0:(List Asked)) (x1 x2:Int) (x3:za): Tr (((List Asked)×Int×Int×za)⊕((Bool)⊕(Unit))) :=
 (.ite (decide (x2 < x1))
  (.guard ((0:Int)≤x2∧x2 < ((Sl.len (.asked x0):Nat):Int))
  (.guard ((((decide (((x0.getD x2.toNat default).C) < 0))||(decide (((x0.getD x2.toNat default).C) > 1)))=false→((0:Int)≤((x0.getD x2.toNat default).C)∧(((x0.getD x2.toNat default).C):Int) < 2)∧True))
  (.guard ((((((decide (((x0.getD x2.toNat default).C) < 0))||(decide (((x0.getD x2.toNat default).C) > 1)))||(!(x3.Links.On.get ((x0.getD x2.toNat default).C))))||((((x0.getD x2.toNat default).P).Kind)==1))=false→((zaw ((x0.getD x2.toNat default).P)).isSome=true)∧True))
  (.ite (((((decide (((x0.getD x2.toNat default).C) < 0))||(decide (((x0.getD x2.toNat default).C) > 1)))||(!(x3.Links.On.get ((x0.getD x2.toNat default).C))))||((((x0.getD x2.toNat default).P).Kind)==1))||(((zaw ((x0.getD x2.toNat default).P)).getD default) != 0))
   (.leaf (.inr (.inl false)))
   (.leaf (.inl (x0,x1,IntKind.i64.wrap (x2+1),x3)))))))
  (.leaf (.inr (.inr ()))))
def zil (x0:(List Asked)) (x1 x2:Int) (x3:za):=zbp (fun s:(List Asked)×Int×Int×za=>(zcg s.1 s.2.1 s.2.2.1 s.2.2.2).run) (x0,x1,x2,x3)
def zbao:Ann:=⟨[],[],[],zavt,[]⟩
def zbap:=EndD.mk (LQ.kp 0 0 (LQ.v zal (LQ.v intP (LQ.v intP (LP.q providerL))))) ⟨[1,93,94,95],[.pub 93,.nilsl 93 (.asked [])]⟩ [.cells 63 97]
def zav0:=EndD.mk (Par.q boolP) ⟨[2],[]⟩ []
def zav1:EndD (Unit):=⟨LQ.nil,⟨[],[]⟩,[]⟩
def zaz2:St→Option LR:=L2 129 4 0 zbap .ret zav0 (.exit 4) zav1 (u4 zcg)
def zs155c:=sub (fb Tryz.f51) [0,1,0,1,1,1]
theorem zbaq:zk (zavu).env 0 zs155c zaz2 :=
 zkf (A:=zbao) zavv fM trivial (k:=zab zs155c) (by kernel_rfl) rfl rfl (by rintro ⟨x0,x1,x2,x3⟩;kernel_rfl)
def znm (a0:za): Tr (Bool) :=
 (.bind (zhx a0.Stake) fun v1 =>
 (.guard (((((((!v1)||(decide (a0.Height < 0)))||(decide (a0.Height > 1099511627775)))||(decide (a0.Time < 0)))||(decide (a0.Time > 1099511627776)))=false→((zds a0.Set).isSome=true)∧True))
 (.ite ((((((!v1)||(decide (a0.Height < 0)))||(decide (a0.Height > 1099511627775)))||(decide (a0.Time < 0)))||(decide (a0.Time > 1099511627776)))||(!((zds a0.Set).getD default)))
  (.leaf false)
  (.two (zik a0.Links 0 a0) (fun v4 =>
   (.leaf v4)) (fun v5 =>
   (.two (zil v5.Queue ((v5.Queue.length:Nat):Int) 0 v5) (fun v6 =>
    (.leaf v6)) (fun v7 =>
    (.leaf true))))))))
def zag (a0:za):=(znm a0).run
def zbt:SpecT:=zm 0 (Par.q (Par.ofLP providerL)) 1 [] znm default (Par.q boolP) 1 []
theorem zb8:ze Tryz.prog 51 (zbt).spec :=
 sK (A:=⟨[([0,1,0,1,1],zaz1),([0,1,0,1,1,1],zaz2)],[],[],zavt,[]⟩) zavv fM Tryz.func51 (c:=(fb Tryz.f51)) (by kernel_rfl) (Lc:=0) ⟨zban,zbaq,trivial⟩ _ _ 4 _ _ _ _ _ _ [] (by rintro a0;kernel_rfl)
noncomputable def zbjj:EnvT:=⟨Tryz.prog,zw [(49,z2m),(50,zu5)]⟩
theorem zbjk:(zbjj).Ok:=zd ⟨zaa8,zz1,trivial⟩
def zos  : Tr (za) :=
 (.bind (zs9) fun v1 =>
 (.bind (zms 0 0) fun v2 =>
 (.leaf (⟨0,0,v1,[],(default:Links),v2,[]⟩:za))))
def znn  := (zos ).run
def zwo:SpecT:=zm 0 LQ.nil 0 [] (fun s=>zos ) default (Par.q (Par.ofLP providerL)) 1 []
theorem z50:ze Tryz.prog 17 (zwo).spec :=
 sK (A:=⟨[],[],[],[[0],[0]],[]⟩) zbjk fM Tryz.func17 (c:=(fb Tryz.f17)) (by kernel_rfl) (Lc:=0) trivial _ _ 3 _ _ _ _ _ _ [.pubB 0] (by rintro _;kernel_rfl)
noncomputable def zbjl:EnvT:=⟨Tryz.prog,zw [(51,zbt),(52,z2n),(53,zun)]⟩
theorem zbjm:(zbjl).Ok:=zd ⟨zb8,zaa9,z34,trivial⟩
def zim (a0:za) (a1 a2 a3:Int): Tr (za×Int) :=
 (.bind (zag a0) fun v1 =>
 (.ite (!v1)
  (.leaf (a0,2))
  (.bind (ztc a0.Stake a1 a2 a3) fun v2 =>
  (.ite (v2.2 != 0)
   (.leaf (a0,v2.2))
   (.bind (zl3 a0) fun v3 =>
   (.leaf ({ v3 with Stake:=v2.1 },0)))))))
def zbm (a0:za) (a1 a2 a3:Int):=(zim a0 a1 a2 a3).run
def zn0:SpecT:=zm 0 (LQ.v (Par.ofLP providerL) (LQ.v intP (LQ.v intP (Par.q intP)))) 4 [] (u4 zim) default (LQ.v (Par.ofLP providerL) (Par.q intP)) 2 []
theorem zya:ze Tryz.prog 19 (zn0).spec :=
 sK (A:=⟨[],[],[],[[1,2,3,4,8],[1,2,3,4,8,14],[8,9],[4,8,10,11],[4,8,10,11,26],[8,9],[4,8,10],[4,8],[8,9]],[]⟩) zbjm fM Tryz.func19 (c:=(fb Tryz.f19)) (by kernel_rfl) (Lc:=0) trivial _ _ 5 _ _ _ _ _ _ [.pubB 8] (by rintro ⟨a0,a1,a2,a3⟩;kernel_rfl)
def zbar:List (List Nat):=[[1,2,3,4,5,10],[1,2,3,4,5,10,27],[10,11],[1,2,3,4,5,10,12],[1,2,3,5,10,12,13],[1,2,3,5,10,12,13,37],[1,2,3,5,10,12,13,37,38],[1,2,3,5,10,12,13,14,37],[1,2,3,5,10,12,13,14,37,44],[1,2,3,5,10,12,13,14,37],[1,2,3,5,10,12,13,37],[1,2,3,5,10,12,13,37],[5,10,12,15,16],[5,10,12,15,16,67],[10,11],[10,12],[10,11]]
noncomputable def zbas:EnvT:=⟨Tryz.prog,zw [(51,zbt),(53,zbq),(54,zyv)]⟩
theorem zbat:(zbas).Ok:=zd ⟨zb8,zce,z7f,trivial⟩
def zay (x0 x1 x2 x3:Int) (x4 x5 x6:za) (x7:Wait): Tr ((Int×Int×Int×Int×za×za×za×Wait)⊕(Int×Int×Int×za×za×za×Wait)) :=
 (.ite (decide (x3 < 2))
  (.guard ((0:Int)≤x3∧(x3:Int) < 2)
  (.ite (x6.Links.On.get x3)
   (.guard ((0:Int)≤x3∧(x3:Int) < 2)
   (.guard ((0:Int)≤x3∧(x3:Int) < 2)
   (.leaf (.inl (x0,x1,x2,IntKind.i64.wrap (x3+1),x4,x5,{ x6 with Links:={ x6.Links with Fresh:=(x6.Links.Fresh.set x3 true) } },{ (x7:Wait) with h0:=if x3=0 then IntKind.i64.wrap (x4.Height+1) else x7.h0,h1:=if x3=1 then IntKind.i64.wrap (x4.Height+1) else x7.h1 })))))
   (.leaf (.inl (x0,x1,x2,IntKind.i64.wrap (x3+1),x4,x5,x6,x7)))))
  (.leaf (.inr (x0,x1,x2,x4,x5,x6,x7))))
def zei (x0 x1 x2 x3:Int) (x4 x5 x6:za) (x7:Wait):=zbp (fun s:Int×Int×Int×Int×za×za×za×Wait=>(zay s.1 s.2.1 s.2.2.1 s.2.2.2.1 s.2.2.2.2.1 s.2.2.2.2.2.1 s.2.2.2.2.2.2.1 s.2.2.2.2.2.2.2).run) (x0,x1,x2,x3,x4,x5,x6,x7)
def zbau:Ann:=⟨[],[],[],zbar,[]⟩
def zbav:=EndD.mk (LQ.map (LQ.v intP (LQ.v intP (LQ.v intP (LQ.kp 0 0 (LQ.kp 1 0 (LQ.kp 2 0 (LQ.kp 3 0 (LQ.v intP (LQ.seq (LP.q providerL) (LQ.seq (LP.q providerL) (LQ.v intP (LQ.v intP (LQ.seq (LP.q bankL) (LQ.seq (LP.q validatorsL) (LQ.seq (LP.q (a4L (a6L (LP.one intP)))) (LQ.k (LQ.c (.own 4)) (LQ.v intP (LQ.k (LQ.c (.own 5)) (LQ.seq (LP.q linksL) (LQ.seq (LP.q meterL) (LQ.k (LQ.c (.own 6)) (LQ.seq (LP.q zaoa) (LQ.v zca (LQ.v zg (Par.q zal))))))))))))))))))))))))) (fun x=>(x.1,x.2.1,x.2.2.1,x.2.2.2.1,(d4 x).1,(d4 x).2.1,(⟨(d4 x).2.2.1,(d4 x).2.2.2.1,(⟨(d8 x).1,(d8 x).2.1,(d8 x).2.2.1,(d12 x).2.2.2.1,(d8 x).2.2.2.1⟩:Stake),(d16 x).1,(d12 x).1,(d12 x).2.1,(d16 x).2⟩:za),(d12 x).2.2.1)) (fun y=>(y.1,y.2.1,y.2.2.1,y.2.2.2.1,(d4 y).1,(d4 y).2.1,(d4 y).2.2.1.Height,(d4 y).2.2.1.Time,(d4 y).2.2.1.Stake.Bank,(d4 y).2.2.1.Stake.Validators,(d4 y).2.2.1.Stake.Shares,(d4 y).2.2.1.Stake.Next,(d4 y).2.2.1.Links,(d4 y).2.2.1.Meter,(d4 y).2.2.2,(d4 y).2.2.1.Stake.Waits,(d4 y).2.2.1.Set,(d4 y).2.2.1.Queue)) (fun _=>rfl)) ⟨[1,2,3,5,10,12,13,37],[.nilcell 12 63 127 (.waits []),.nilcell 12 65 154 (.powers []),.nilcell 12 96 112 (.asked [])]⟩ [.cells 63 97,.cells 63 97,.cells 63 97,.cells 127 8,.rows 127,.rows 154,.rows 112]
def zav2:=EndD.mk (LQ.map (LQ.v intP (LQ.v intP (LQ.v intP (LQ.kp 0 0 (LQ.kp 1 0 (LQ.kp 2 0 (LQ.kp 3 0 (LQ.seq (LP.q providerL) (LQ.seq (LP.q providerL) (LQ.v intP (LQ.v intP (LQ.seq (LP.q bankL) (LQ.seq (LP.q validatorsL) (LQ.seq (LP.q (a4L (a6L (LP.one intP)))) (LQ.k (LQ.c (.own 4)) (LQ.v intP (LQ.k (LQ.c (.own 5)) (LQ.seq (LP.q linksL) (LQ.seq (LP.q meterL) (LQ.k (LQ.c (.own 6)) (LQ.seq (LP.q zaoa) (LQ.v zca (LQ.v zg (Par.q zal)))))))))))))))))))))))) (fun x=>(x.1,x.2.1,x.2.2.1,x.2.2.2.1,(d4 x).1,(⟨(d4 x).2.1,(d4 x).2.2.1,(⟨(d4 x).2.2.2.1,(d8 x).1,(d8 x).2.1,(d12 x).2.2.1,(d8 x).2.2.1⟩:Stake),(d12 x).2.2.2.1,(d8 x).2.2.2.1,(d12 x).1,(d16 x)⟩:za),(d12 x).2.1)) (fun y=>(y.1,y.2.1,y.2.2.1,y.2.2.2.1,(d4 y).1,(d4 y).2.1.Height,(d4 y).2.1.Time,(d4 y).2.1.Stake.Bank,(d4 y).2.1.Stake.Validators,(d4 y).2.1.Stake.Shares,(d4 y).2.1.Stake.Next,(d4 y).2.1.Links,(d4 y).2.1.Meter,(d4 y).2.2,(d4 y).2.1.Stake.Waits,(d4 y).2.1.Set,(d4 y).2.1.Queue)) (fun _=>rfl)) ⟨[1,2,3,5,10,12,13],[.nilcell 12 63 127 (.waits []),.nilcell 12 65 154 (.powers []),.nilcell 12 96 112 (.asked [])]⟩ [.cells 63 97,.cells 63 97,.cells 63 97,.cells 127 8,.rows 127,.rows 154,.rows 112]
def zaz3:St→Option LR:=L1 73 10 0 zbav (.exit 0) zav2 (u8 zay)
def zs158a:=sub (fb Tryz.f20) [0,1,0,1,1,1,1]
theorem zbaw:zk (zbas).env 0 zs158a zaz3 :=
 zb2 (A:=zbau) zbat fM trivial (k:=zab zs158a) (by kernel_rfl) rfl (by rintro ⟨x0,x1,x2,x3,x4,x5,x6,x7⟩;kernel_rfl)
def zgp (a0:za) (a1 a2 a3 a4:Int): Tr (za×Int) :=
 (.bind (zag a0) fun v1 =>
 (.ite (((!v1)||(decide (a4 < 0)))||(decide (a4 > 1099511627776)))
  (.leaf (a0,2))
  (.bind (za0 a0) fun v2 =>
  (.bind (zei a1 a2 a3 0 a0 (default:za) v2 (⟨0,0,0,0,IntKind.i64.wrap (a0.Height+1),IntKind.i64.wrap (a4+20),0,0⟩:Wait)) fun v3 =>
  (.bind (zoo v3.2.2.2.1.Stake v3.1 v3.2.1 v3.2.2.1 v3.2.2.2.2.2.2) fun v4 =>
  (.ite (v4.2 != 0)
   (.leaf (v3.2.2.2.1,v4.2))
   (.leaf ({ v3.2.2.2.2.2.1 with Stake:=v4.1 },0))))))))
def za7 (a0:za) (a1 a2 a3 a4:Int):=(zgp a0 a1 a2 a3 a4).run
def zmd:SpecT:=zm 0 (LQ.v (Par.ofLP providerL) (LQ.v intP (LQ.v intP (LQ.v intP (Par.q intP))))) 5 [] (u5 zgp) default (LQ.v (Par.ofLP providerL) (Par.q intP)) 2 []
theorem zvr:ze Tryz.prog 20 (zmd).spec :=
 sK (A:=⟨[([0,1,0,1,1,1,1],zaz3)],[],[],zbar,[]⟩) zbat fM Tryz.func20 (c:=(fb Tryz.f20)) (by kernel_rfl) (Lc:=0) ⟨zbaw,trivial⟩ _ _ 10 _ _ _ _ _ _ [.pubB 10] (by rintro ⟨a0,a1,a2,a3,a4⟩;kernel_rfl)
def zbax:List (List Nat):=[[1,2,4],[1,2,4,11],[4,5],[1,2,4,18],[4,5],[1,2,4,24],[4,5],[1,2,4,30],[4,5],[1,2,4,40],[4,5],[1,2,4,6],[1,2,4,6],[1,2,4,6,55,56,57],[1,2,4,6,55,56,57,58],[1,2,4,6,7,8,55,56,57],[1,2,4,6,7,8,55,56,57,66],[1,2,4,6,55,56,57],[1,2,4,6,55,56,57],[4,5]]
noncomputable def zbay:EnvT:=⟨Tryz.prog,zw [(51,zbt),(53,zbq)]⟩
theorem zbaz:(zbay).Ok:=zd ⟨zb8,zce,trivial⟩
def zk9 (x0:Int) (x1:(List Wait)) (x2 x3:Int) (x4 x5 x6:za): Tr ((Int×(List Wait)×Int×Int×za×za×za)⊕(za×za)) :=
 (.ite (decide (x3 < x2))
  (.guard ((0:Int)≤x3∧x3 < ((Sl.len (.waits x1):Nat):Int))
  (.ite (decide (((x1.getD x3.toNat default).Height) > x4.Height))
   (.guard ((0:Int)≤x3∧x3 < ((Sl.len (.waits x6.Stake.Waits):Nat):Int))
   (.guard ((0:Int)≤x0∧(x0:Int) < 2)
   (.guard ((0:Int)≤x0∧(x0:Int) < 2)
   (.leaf (.inl (x0,x1,x2,IntKind.i64.wrap (x3+1),x4,x5,{ x6 with Stake:={ x6.Stake with Waits:=x6.Stake.Waits.set x3.toNat ({ ((x6.Stake.Waits.getD x3.toNat default):Wait) with h0:=if x0=0 then (x1.getD x3.toNat default).Height else (x6.Stake.Waits.getD x3.toNat default).h0,h1:=if x0=1 then (x1.getD x3.toNat default).Height else (x6.Stake.Waits.getD x3.toNat default).h1 }) },Links:={ x6.Links with Fresh:=(x6.Links.Fresh.set x0 true) } }))))))
   (.leaf (.inl (x0,x1,x2,IntKind.i64.wrap (x3+1),x4,x5,x6)))))
  (.leaf (.inr (x5,x6))))
def ztk (x0:Int) (x1:(List Wait)) (x2 x3:Int) (x4 x5 x6:za):=zbp (fun s:Int×(List Wait)×Int×Int×za×za×za=>(zk9 s.1 s.2.1 s.2.2.1 s.2.2.2.1 s.2.2.2.2.1 s.2.2.2.2.2.1 s.2.2.2.2.2.2).run) (x0,x1,x2,x3,x4,x5,x6)
def zba0:Ann:=⟨[],[],[],zbax,[]⟩
def zba1:=EndD.mk (LQ.map (LQ.v intP (LQ.kp 0 0 (LQ.kp 1 0 (LQ.kp 2 0 (LQ.v zca (LQ.v intP (LQ.v intP (LQ.seq (LP.q providerL) (LQ.seq (LP.q providerL) (LQ.v intP (LQ.v intP (LQ.seq (LP.q bankL) (LQ.seq (LP.q validatorsL) (LQ.seq (LP.q (a4L (a6L (LP.one intP)))) (LQ.k (LQ.c (.own 3)) (LQ.v intP (LQ.k (LQ.c (.own 4)) (LQ.seq (LP.q linksL) (LQ.seq (LP.q meterL) (LQ.k (LQ.c (.own 5)) (LQ.v zca (LQ.v zg (Par.q zal))))))))))))))))))))))) (fun x=>(x.1,x.2.1,x.2.2.1,x.2.2.2.1,(d4 x).1,(d4 x).2.1,(⟨(d4 x).2.2.1,(d4 x).2.2.2.1,(⟨(d8 x).1,(d8 x).2.1,(d8 x).2.2.1,(d12 x).2.2.1,(d8 x).2.2.2.1⟩:Stake),(d12 x).2.2.2.1,(d12 x).1,(d12 x).2.1,(d16 x)⟩:za))) (fun y=>(y.1,y.2.1,y.2.2.1,y.2.2.2.1,(d4 y).1,(d4 y).2.1,(d4 y).2.2.Height,(d4 y).2.2.Time,(d4 y).2.2.Stake.Bank,(d4 y).2.2.Stake.Validators,(d4 y).2.2.Stake.Shares,(d4 y).2.2.Stake.Next,(d4 y).2.2.Links,(d4 y).2.2.Meter,(d4 y).2.2.Stake.Waits,(d4 y).2.2.Set,(d4 y).2.2.Queue)) (fun _=>rfl)) ⟨[1,2,4,6,55,56,57],[.nilcell 6 63 127 (.waits []),.nilcell 6 65 154 (.powers []),.nilcell 6 96 112 (.asked []),.pub 55,.nilsl 55 (.waits [])]⟩ [.cells 63 97,.cells 63 97,.cells 63 97,.rows 127,.rows 154,.rows 112]
def zav3:=EndD.mk (LQ.map (LQ.kp 0 0 (LQ.kp 1 0 (LQ.seq (LP.q providerL) (LQ.v intP (LQ.v intP (LQ.seq (LP.q bankL) (LQ.seq (LP.q validatorsL) (LQ.seq (LP.q (a4L (a6L (LP.one intP)))) (LQ.k (LQ.c (.own 2)) (LQ.v intP (LQ.k (LQ.c (.own 3)) (LQ.seq (LP.q linksL) (LQ.seq (LP.q meterL) (LQ.k (LQ.c (.own 4)) (LQ.v zca (LQ.v zg (Par.q zal))))))))))))))))) (fun x=>(x.1,(⟨x.2.1,x.2.2.1,(⟨x.2.2.2.1,(d4 x).1,(d4 x).2.1,(d8 x).2.1,(d4 x).2.2.1⟩:Stake),(d8 x).2.2.1,(d4 x).2.2.2.1,(d8 x).1,(d8 x).2.2.2⟩:za))) (fun y=>(y.1,y.2.Height,y.2.Time,y.2.Stake.Bank,y.2.Stake.Validators,y.2.Stake.Shares,y.2.Stake.Next,y.2.Links,y.2.Meter,y.2.Stake.Waits,y.2.Set,y.2.Queue)) (fun _=>rfl)) ⟨[4,6],[.nilcell 6 63 127 (.waits []),.nilcell 6 65 154 (.powers []),.nilcell 6 96 112 (.asked [])]⟩ [.cells 63 97,.cells 63 97,.rows 127,.rows 154,.rows 112]
def zaz4:St→Option LR:=L1 83 9 0 zba1 (.exit 0) zav3 (u7 zk9)
def zs159a:=sub (fb Tryz.f24) [0,1,0,1,1,1,1,1,1,1,1]
theorem zba2:zk (zbay).env 0 zs159a zaz4 :=
 zb2 (A:=zba0) zbaz fM trivial (k:=zab zs159a) (by kernel_rfl) rfl (by rintro ⟨x0,x1,x2,x3,x4,x5,x6⟩;kernel_rfl)
def z35 (a0:za) (a1:Int): Tr (za×Int) :=
 (.bind (zag a0) fun v1 =>
 (.ite (!v1)
  (.leaf (a0,2))
  (.ite ((decide (a1 < 0))||(decide (a1 > 1)))
   (.leaf (a0,4))
   (.guard ((0:Int)≤a1∧(a1:Int) < 2)
   (.ite (a0.Links.Gone.get a1)
    (.leaf (a0,11))
    (.guard ((0:Int)≤a1∧(a1:Int) < 2)
    (.ite (a0.Links.On.get a1)
     (.leaf (a0,5))
     (.ite ((a0.Height==0)||(((a0.Set.length:Nat):Int)==0))
      (.leaf (a0,13))
      (.bind (za0 a0) fun v2 =>
      (.guard ((0+Sl.len (.powers a0.Set))*16≤140737488355328)
      (.guard ((0:Int)≤a1∧(a1:Int) < 2)
      (.bind (ztk a1 a0.Stake.Waits ((a0.Stake.Waits.length:Nat):Int) 0 a0 (default:za) ({ v2 with Links:=(⟨(v2.Links.On.set a1 true),(v2.Links.Gone.set a1 false),(v2.Links.Base.set a1 a0.Height),(v2.Links.Told.set a1 a0.Set),(v2.Links.Fresh.set a1 false),(v2.Links.Done.set a1 []),(v2.Links.Said.set a1 []),(v2.Links.Due.set a1 []),(v2.Links.Got.set a1 0),(v2.Links.Closed.set a1 false),(v2.Links.SHeight.set a1 0),(v2.Links.STime.set a1 0),(v2.Links.SSaid.set a1 0),(v2.Links.SGot.set a1 0)⟩:Links) })) fun v3 =>
      (.leaf (v3.2,0))))))))))))))
def zc7 (a0:za) (a1:Int):=(z35 a0 a1).run
def zabf:SpecT:=zm 0 (LQ.v (Par.ofLP providerL) (Par.q intP)) 2 [] (u2 z35) default (LQ.v (Par.ofLP providerL) (Par.q intP)) 2 []
theorem zail:ze Tryz.prog 24 (zabf).spec :=
 sK (A:=⟨[([0,1,0,1,1,1,1,1,1,1,1],zaz4)],[],[],zbax,[]⟩) zbaz fM Tryz.func24 (c:=(fb Tryz.f24)) (by kernel_rfl) (Lc:=0) ⟨zba2,trivial⟩ _ _ 9 _ _ _ _ _ _ [.pubB 4] (by rintro ⟨a0,a1⟩;kernel_rfl)
def zba3:List (List Nat):=[[1,2,4],[1,2,4,28],[4],[1,4,5],[1,4,5,6],[1,4,5],[1,4,5],[1,4,5,7],[1,4,5,7,57,58,59],[1,4,5,7,57,58,59,60],[1,4,5,7,9,57,58,59],[1,4,5,7,9,57,58,59,66],[1,4,5,7,57,58,59],[1,4,5,7,57,58,59],[4,5],[4]]
noncomputable def zba4:EnvT:=⟨Tryz.prog,zw [(51,zbt),(53,zbq),(77,zx3)]⟩
theorem zba5:(zba4).Ok:=zd ⟨zb8,zce,z2o,trivial⟩
def zji (x0 x1 x2:Int) (x3 x4:za) (x5:(List Asked)): Tr ((Int×Int×Int×za×za×(List Asked))⊕(za×za×(List Asked))) :=
 (.ite (decide (x2 < x1))
  (.guard ((0:Int)≤x2∧x2 < ((Sl.len (.asked x4.Queue):Nat):Int))
  (.ite (((x4.Queue.getD x2.toNat default).C) != x0)
   (.guard ((Sl.len (.asked x5)+Sl.len (.asked [(x4.Queue.getD x2.toNat default)]))*88≤140737488355328)
   (.leaf (.inl (x0,x1,IntKind.i64.wrap (x2+1),x3,x4,x5++[(x4.Queue.getD x2.toNat default)]))))
   (.leaf (.inl (x0,x1,IntKind.i64.wrap (x2+1),x3,x4,x5)))))
  (.leaf (.inr (x3,x4,x5))))
def zqx (x0 x1 x2:Int) (x3 x4:za) (x5:(List Asked)):=zbp (fun s:Int×Int×Int×za×za×(List Asked)=>(zji s.1 s.2.1 s.2.2.1 s.2.2.2.1 s.2.2.2.2.1 s.2.2.2.2.2).run) (x0,x1,x2,x3,x4,x5)
def zba6:Ann:=⟨[],[],[],zba3,[]⟩
def zba7:=EndD.mk (LQ.map (LQ.v intP (LQ.kp 0 0 (LQ.kp 1 0 (LQ.k (LQ.c (.own 2)) (LQ.k (LQ.c (.own 3)) (LQ.v intP (LQ.v intP (LQ.seq (LP.q providerL) (LQ.v intP (LQ.v intP (LQ.seq (LP.q stakeL) (LQ.k (LQ.c (.own 4)) (LQ.seq (LP.q linksL) (LQ.seq (LP.q meterL) (LQ.k (LQ.c (.own 3)) (LQ.v zal (LQ.v zal (Par.q zg)))))))))))))))))) (fun x=>(x.1,x.2.1,x.2.2.1,x.2.2.2.1,(⟨(d4 x).1,(d4 x).2.1,(d4 x).2.2.1,(d8 x).2.2.2,(d4 x).2.2.2.1,(d8 x).1,(d8 x).2.2.1⟩:za),(d8 x).2.1)) (fun y=>(y.1,y.2.1,y.2.2.1,y.2.2.2.1,(d4 y).1.Height,(d4 y).1.Time,(d4 y).1.Stake,(d4 y).1.Links,(d4 y).1.Meter,(d4 y).2,(d4 y).1.Queue,(d4 y).1.Set)) (fun _=>rfl)) ⟨[1,4,5,7,57,58,59],[.nilcell 5 65 154 (.powers []),.nilcell 5 96 112 (.asked []),.nilown 7 112 (.asked []),.nilown 57 112 (.asked [])]⟩ [.cells 63 97,.cells 63 97,.rows 112,.rows 112,.rows 154]
def zav4:=EndD.mk (LQ.map (LQ.kp 0 0 (LQ.kp 1 0 (LQ.k (LQ.c (.own 2)) (LQ.seq (LP.q providerL) (LQ.v intP (LQ.v intP (LQ.seq (LP.q stakeL) (LQ.k (LQ.c (.own 3)) (LQ.seq (LP.q linksL) (LQ.seq (LP.q meterL) (LQ.k (LQ.c (.own 4)) (LQ.v zal (LQ.v zg (Par.q zal)))))))))))))) (fun x=>(x.1,(⟨x.2.1,x.2.2.1,x.2.2.2.1,(d4 x).2.2.2.1,(d4 x).1,(d4 x).2.1,(d8 x)⟩:za),(d4 x).2.2.1)) (fun y=>(y.1,y.2.1.Height,y.2.1.Time,y.2.1.Stake,y.2.1.Links,y.2.1.Meter,y.2.2,y.2.1.Set,y.2.1.Queue)) (fun _=>rfl)) ⟨[4,5,7],[.nilcell 5 65 154 (.powers []),.nilcell 5 96 112 (.asked []),.nilown 7 112 (.asked [])]⟩ [.cells 63 97,.cells 63 97,.rows 112,.rows 154,.rows 112]
def zaz5:St→Option LR:=L1 75 10 0 zba7 (.exit 0) zav4 (u6 zji)
def zs160a:=sub (fb Tryz.f31) [0,1,0,1,1,1,1,1,1,1]
theorem zba8:zk (zba4).env 0 zs160a zaz5 :=
 zb2 (A:=zba6) zba5 fM trivial (k:=zab zs160a) (by kernel_rfl) rfl (by rintro ⟨x0,x1,x2,x3,x4,x5⟩;kernel_rfl)
def z0t (a0:za) (a1:Int): Tr (za) :=
 (.guard ((((decide (a1 < 0))||(decide (a1 > 1)))=false→((zag a0).isSome=true)∧True))
 (.guard (((((decide (a1 < 0))||(decide (a1 > 1)))||(!((zag a0).getD default)))=false→((0:Int)≤a1∧(a1:Int) < 2)∧True))
 (.ite ((((decide (a1 < 0))||(decide (a1 > 1)))||(!((zag a0).getD default)))||(!(a0.Links.On.get a1)))
  (.leaf a0)
  (.bind (za0 a0) fun v1 =>
  (.guard ((0:Int)≤a1∧(a1:Int) < 2)
  (.bind (zpf v1.Stake a1 1099511627776) fun v3 =>
  (.bind (zqx a1 ((v1.Queue.length:Nat):Int) 0 (default:za) ({ v1 with Stake:=v3,Links:={ v1.Links with On:=(v1.Links.On.set a1 false),Gone:=(v1.Links.Gone.set a1 true),Fresh:=(v1.Links.Fresh.set a1 false),Done:=(v1.Links.Done.set a1 []),Closed:=(v1.Links.Closed.set a1 true) } }) []) fun v4 =>
  (.leaf ({ v4.2.1 with Queue:=v4.2.2 })))))))))
def zhe (a0:za) (a1:Int):=(z0t a0 a1).run
def z8h:SpecT:=zm 0 (LQ.v (Par.ofLP providerL) (Par.q intP)) 2 [] (u2 z0t) default (Par.q (Par.ofLP providerL)) 1 []
theorem zagi:ze Tryz.prog 31 (z8h).spec :=
 sK (A:=⟨[([0,1,0,1,1,1,1,1,1,1],zaz5)],[],[],zba3,[]⟩) zba5 fM Tryz.func31 (c:=(fb Tryz.f31)) (by kernel_rfl) (Lc:=0) ⟨zba8,trivial⟩ _ _ 10 _ _ _ _ _ _ [.pubB 4] (by rintro ⟨a0,a1⟩;kernel_rfl)
noncomputable def zbjn:EnvT:=⟨Tryz.prog,zw [(51,zbt),(108,zm2),(53,zbq)]⟩
theorem zbjo:(zbjn).Ok:=zd ⟨zb8,zsn,zce,trivial⟩
def zno (a0:za) (a1:Int) (a2:ByteArray): Tr (za×Int) :=
 (.bind (zag a0) fun v1 =>
 (.ite (!v1)
  (.leaf (a0,2))
  (.guard ((((decide (a1 < 0))||(decide (a1 > 1)))=false→((0:Int)≤a1∧(a1:Int) < 2)∧True))
  (.ite (((decide (a1 < 0))||(decide (a1 > 1)))||(!(a0.Links.On.get a1)))
   (.leaf (a0,4))
   (.bind (zdc a2) fun v2 =>
   (.ite (v2.2 != 0)
    (.leaf (a0,v2.2))
    (.ite (v2.1.Kind==1)
     (.leaf (a0,3))
     (.bind (za0 a0) fun v3 =>
     (.guard ((Sl.len (.asked v3.Queue)+Sl.len (.asked [(⟨a1,v2.1⟩:Asked)]))*88≤140737488355328)
     (.leaf ({ v3 with Queue:=v3.Queue++[(⟨a1,v2.1⟩:Asked)] },0)))))))))))
def zb9 (a0:za) (a1:Int) (a2:ByteArray):=(zno a0 a1 a2).run
def zuo:SpecT:=zm 0 (LQ.v (Par.ofLP providerL) (LQ.v intP (Par.q z43))) 3 [] (u3 zno) default (LQ.v (Par.ofLP providerL) (Par.q intP)) 2 []
theorem z36:ze Tryz.prog 73 (zuo).spec :=
 sK (A:=⟨[],[],[],[[1,2,3,6],[1,2,3,6,13],[6,7],[1,2,3,6,28],[6,7],[1,3,6,8,9],[1,3,6,8,9,36],[6,7],[1,3,6,8,41],[6,7],[1,6,8,10],[6,10],[6,7]],[]⟩) zbjo fM Tryz.func73 (c:=(fb Tryz.f73)) (by kernel_rfl) (Lc:=0) trivial _ _ 11 _ _ _ _ _ _ [.pubB 6] (by rintro ⟨a0,a1,a2⟩;kernel_rfl)
noncomputable def zbjp:EnvT:=⟨Tryz.prog,zw [(51,zbt),(53,zbq),(57,z3z),(21,zx4)]⟩
theorem zbjq:(zbjp).Ok:=zd ⟨zb8,zce,z8e,z0p,trivial⟩
def zvs (a0:za) (a1 a2:Int): Tr (za×Int) :=
 (.bind (zag a0) fun v1 =>
 (.ite (!v1)
  (.leaf (a0,2))
  (.ite ((decide (a1 < 0))||(decide (a1 > 5)))
   (.leaf (a0,4))
   (.ite ((decide (a2 < 1))||(decide (a2 > a0.Height)))
    (.leaf (a0,2))
    (.guard ((0:Int)≤a1∧(a1:Int) < 6)
    (.ite (a0.Stake.Validators.Dead.get a1)
     (.leaf (a0,15))
     (.bind (za0 a0) fun v2 =>
     (.bind (zpv v2.Stake a1 a2 50) fun v4 =>
     (.bind (zfh v4.1 a1 2) fun v5 =>
     (.leaf ({ v2 with Stake:=v5.1 },0)))))))))))
def zgq (a0:za) (a1 a2:Int):=(zvs a0 a1 a2).run
def z2q:SpecT:=zm 0 (LQ.v (Par.ofLP providerL) (LQ.v intP (Par.q intP))) 3 [] (u3 zvs) default (LQ.v (Par.ofLP providerL) (Par.q intP)) 2 []
theorem zabg:ze Tryz.prog 22 (z2q).spec :=
 sK (A:=⟨[],[],[],[[1,2,3,6],[1,2,3,6,11],[6,7],[1,2,3,6,18],[6,7],[1,2,3,6,27],[6,7],[1,2,3,6,34],[6,7],[1,2,6,8],[1,6,8],[6,8],[6,7]],[]⟩) zbjq fM Tryz.func22 (c:=(fb Tryz.f22)) (by kernel_rfl) (Lc:=0) trivial _ _ 8 _ _ _ _ _ _ [.pubB 6] (by rintro ⟨a0,a1,a2⟩;kernel_rfl)
def za3m:List (List Nat):=[[2,3,4],[2,3,4,6],[2,3,4,6,7],[2,3,4,6,7,26],[2,4],[4,5],[2,3,4,6,7,40],[2,3,4,6,43],[2,4,6],[2,4],[4,5],[2,3,4,6,7,74],[2,3,4,6,8,9],[2,3,4,6,8,86],[4,5],[2,3,4,6],[2,3,4,6],[2,3,4,6,10],[2,3,4,6,10,98],[2,3,4,6,10,98,99],[2,3,4,6,10,11,98],[2,3,4,6,10,11,12,98],[2,3,4,6,10,11,12,98,109,110,111],[2,3,4,6,10,11,12,98,109,110,111,112],[2,3,4,6,10,11,12,14,98,109,110,111],[2,3,4,6,10,11,12,98,109,110,111],[2,3,4,6,10,11,12,98,109,110,111],[2,3,4,6,10,11,98,122],[2,3,4,6,10,98],[2,3,4,6,10,98],[2,4],[4,5]]
noncomputable def za3n:EnvT:=⟨Tryz.prog,zw [(77,zx3),(57,z3z),(21,zx4),(105,zz3)]⟩
theorem za3o:(za3n).Ok:=zd ⟨z2o,z8e,z0p,z8u,trivial⟩
def zyb (x0 x1:Int) (x2:Bool) (x3:Int) (x4:(List Int)) (x5 x6:Int) (x7:za) (x8:Asked) (x9:za) (x10:(List Int)): Tr ((Int×Int×Bool×Int×(List Int)×Int×Int×za×Asked×za×(List Int))⊕(Int×Int×Bool×Int×za×Asked×za×(List Int))) :=
 (.ite (decide (x6 < x5))
  (.guard ((0:Int)≤x6∧x6 < ((Sl.len (.ints x4):Nat):Int))
  (.leaf (.inl (x0,x1,x2||((x4.getD x6.toNat 0)==x1),x3,x4,x5,IntKind.i64.wrap (x6+1),x7,x8,x9,x10))))
  (.leaf (.inr (x0,x1,x2,x3,x7,x8,x9,x10))))
def z2r (x0 x1:Int) (x2:Bool) (x3:Int) (x4:(List Int)) (x5 x6:Int) (x7:za) (x8:Asked) (x9:za) (x10:(List Int)):=zbp (fun s:Int×Int×Bool×Int×(List Int)×Int×Int×za×Asked×za×(List Int)=>(zyb s.1 s.2.1 s.2.2.1 s.2.2.2.1 s.2.2.2.2.1 s.2.2.2.2.2.1 s.2.2.2.2.2.2.1 s.2.2.2.2.2.2.2.1 s.2.2.2.2.2.2.2.2.1 s.2.2.2.2.2.2.2.2.2.1 s.2.2.2.2.2.2.2.2.2.2).run) (x0,x1,x2,x3,x4,x5,x6,x7,x8,x9,x10)
def zyc (x0 x1:Int) (x2:za) (x3:Asked) (x4:za) (x5:(List Int)): Tr ((Int×Int×za×Asked×za×(List Int))⊕(za×Asked×za×(List Int))) :=
 (.ite (decide (x1 < 6))
  (.guard ((0:Int)≤x3.C∧(x3.C:Int) < 2)
  (.bind (z2r x0 x1 (x1==x0) x1 (x2.Links.Done.get x3.C) (((x2.Links.Done.get x3.C).length:Nat):Int) 0 x2 x3 x4 x5) fun v5 =>
  (.ite (v5.2.2.1)
   (.guard ((Sl.len (.ints v5.2.2.2.2.2.2.2)+Sl.len (.ints [v5.2.1]))*8≤140737488355328)
   (.leaf (.inl (v5.1,IntKind.i64.wrap (v5.2.2.2.1+1),v5.2.2.2.2.1,v5.2.2.2.2.2.1,v5.2.2.2.2.2.2.1,v5.2.2.2.2.2.2.2++[v5.2.1]))))
   (.leaf (.inl (v5.1,IntKind.i64.wrap (v5.2.2.2.1+1),v5.2.2.2.2.1,v5.2.2.2.2.2.1,v5.2.2.2.2.2.2.1,v5.2.2.2.2.2.2.2))))))
  (.leaf (.inr (x2,x3,x4,x5))))
def zvt (x0 x1:Int) (x2:za) (x3:Asked) (x4:za) (x5:(List Int)):=zbp (fun s:Int×Int×za×Asked×za×(List Int)=>(zyc s.1 s.2.1 s.2.2.1 s.2.2.2.1 s.2.2.2.2.1 s.2.2.2.2.2).run) (x0,x1,x2,x3,x4,x5)
def zrv (x0 x1:Int) (x2:Bool) (x3:Int) (x4:(List Int)) (x5 x6:Int) (x7:za) (x8:Asked) (x9:za) (x10:(List Int)): Tr ((Int×Int×Bool×Int×(List Int)×Int×Int×za×Asked×za×(List Int))⊕(Int×Int×Bool×Int×za×Asked×za×(List Int))) :=
 (.ite (decide (x6 < x5))
  (.guard ((0:Int)≤x6∧x6 < ((Sl.len (.ints x4):Nat):Int))
  (.leaf (.inl (x0,x1,x2||((x4.getD x6.toNat 0)==x1),x3,x4,x5,IntKind.i64.wrap (x6+1),x7,x8,x9,x10))))
  (.leaf (.inr (x0,x1,x2,x3,x7,x8,x9,x10))))
def z2s (x0 x1:Int) (x2:Bool) (x3:Int) (x4:(List Int)) (x5 x6:Int) (x7:za) (x8:Asked) (x9:za) (x10:(List Int)):=zbp (fun s:Int×Int×Bool×Int×(List Int)×Int×Int×za×Asked×za×(List Int)=>(zrv s.1 s.2.1 s.2.2.1 s.2.2.2.1 s.2.2.2.2.1 s.2.2.2.2.2.1 s.2.2.2.2.2.2.1 s.2.2.2.2.2.2.2.1 s.2.2.2.2.2.2.2.2.1 s.2.2.2.2.2.2.2.2.2.1 s.2.2.2.2.2.2.2.2.2.2).run) (x0,x1,x2,x3,x4,x5,x6,x7,x8,x9,x10)
def zba9:Ann:=⟨[],[],[],za3m,[]⟩
def zbba:=EndD.mk (LQ.map (LQ.kp 0 0 (LQ.kp 1 0 (LQ.kp 2 0 (LQ.v intP (LQ.k (LQ.c (.own 3)) (LQ.v intP (LQ.v boolP (LQ.v intP (LQ.v zbc (LQ.v intP (LQ.v intP (LQ.v intP (LQ.v intP (LQ.seq (LP.q stakeL) (LQ.v zg (LQ.seq (LP.q linksL) (LQ.seq (LP.q meterL) (LQ.k (LQ.c (.own 4)) (LQ.seq (LP.q z19) (LQ.seq (LP.q providerL) (LQ.v zbc (Par.q zal)))))))))))))))))))))) (fun x=>(x.1,x.2.1,x.2.2.1,x.2.2.2.1,(d4 x).1,(d4 x).2.1,(d4 x).2.2.1,(⟨(d4 x).2.2.2.1,(d8 x).1,(d8 x).2.1,(d8 x).2.2.1,(d8 x).2.2.2.1,(d12 x).1,(d16 x)⟩:za),(d12 x).2.1,(d12 x).2.2.1,(d12 x).2.2.2.1)) (fun y=>(y.1,y.2.1,y.2.2.1,y.2.2.2.1,(d4 y).1,(d4 y).2.1,(d4 y).2.2.1,(d4 y).2.2.2.1.Height,(d4 y).2.2.2.1.Time,(d4 y).2.2.2.1.Stake,(d4 y).2.2.2.1.Set,(d4 y).2.2.2.1.Links,(d4 y).2.2.2.1.Meter,(d8 y).1,(d8 y).2.1,(d8 y).2.2,(d4 y).2.2.2.1.Queue)) (fun _=>rfl)) ⟨[2,3,4,6,10,11,12,98,109,110,111],[.nilcell 2 96 112 (.asked []),.nilown 10 3 (.ints []),.pub 109,.nilsl 109 (.ints [])]⟩ [.cells 63 97,.cells 112 7,.cells 63 97,.rows 3,.rows 112]
def zav5:=EndD.mk (LQ.map (LQ.kp 0 0 (LQ.kp 1 0 (LQ.kp 2 0 (LQ.v intP (LQ.k (LQ.c (.own 3)) (LQ.v intP (LQ.v boolP (LQ.v intP (LQ.v intP (LQ.v intP (LQ.seq (LP.q stakeL) (LQ.v zg (LQ.seq (LP.q linksL) (LQ.seq (LP.q meterL) (LQ.k (LQ.c (.own 4)) (LQ.seq (LP.q z19) (LQ.seq (LP.q providerL) (LQ.v zbc (Par.q zal))))))))))))))))))) (fun x=>(x.1,x.2.1,x.2.2.1,x.2.2.2.1,(⟨(d4 x).1,(d4 x).2.1,(d4 x).2.2.1,(d4 x).2.2.2.1,(d8 x).1,(d8 x).2.1,(d12 x).2⟩:za),(d8 x).2.2.1,(d8 x).2.2.2.1,(d12 x).1)) (fun y=>(y.1,y.2.1,y.2.2.1,y.2.2.2.1,(d4 y).1.Height,(d4 y).1.Time,(d4 y).1.Stake,(d4 y).1.Set,(d4 y).1.Links,(d4 y).1.Meter,(d4 y).2.1,(d4 y).2.2.1,(d4 y).2.2.2,(d4 y).1.Queue)) (fun _=>rfl)) ⟨[2,3,4,6,10,11,12,98],[.nilcell 2 96 112 (.asked []),.nilown 10 3 (.ints [])]⟩ [.cells 63 97,.cells 112 7,.cells 63 97,.rows 3,.rows 112]
def zaz6:St→Option LR:=L1 135 9 0 zbba (.exit 2) zav5 (u11 zrv)
def zs163c:=sub (fb Tryz.f60) [0,1,0,1,1,0,0,1,1,0,0,1,0,1,1,1,1,1,1,1]
theorem zbbb:zk (za3n).env 0 zs163c zaz6 :=
 zb2 (A:=zba9) za3o fM trivial (k:=zab zs163c) (by kernel_rfl) rfl (by rintro ⟨x0,x1,x2,x3,x4,x5,x6,x7,x8,x9,x10⟩;kernel_rfl)
def zrw (x0 x1:Int) (x2:za) (x3:Asked) (x4:za) (x5:(List Int)): Tr ((Int×Int×za×Asked×za×(List Int))⊕(za×Asked×za×(List Int))) :=
 (.ite (decide (x1 < 6))
  (.guard ((0:Int)≤x3.C∧(x3.C:Int) < 2)
  (.bind (z2s x0 x1 (x1==x0) x1 (x2.Links.Done.get x3.C) (((x2.Links.Done.get x3.C).length:Nat):Int) 0 x2 x3 x4 x5) fun v7 =>
  (.ite (v7.2.2.1)
   (.guard ((Sl.len (.ints v7.2.2.2.2.2.2.2)+Sl.len (.ints [v7.2.1]))*8≤140737488355328)
   (.leaf (.inl (v7.1,IntKind.i64.wrap (v7.2.2.2.1+1),v7.2.2.2.2.1,v7.2.2.2.2.2.1,v7.2.2.2.2.2.2.1,v7.2.2.2.2.2.2.2++[v7.2.1]))))
   (.leaf (.inl (v7.1,IntKind.i64.wrap (v7.2.2.2.1+1),v7.2.2.2.2.1,v7.2.2.2.2.2.1,v7.2.2.2.2.2.2.1,v7.2.2.2.2.2.2.2))))))
  (.leaf (.inr (x2,x3,x4,x5))))
def zvu (x0 x1:Int) (x2:za) (x3:Asked) (x4:za) (x5:(List Int)):=zbp (fun s:Int×Int×za×Asked×za×(List Int)=>(zrw s.1 s.2.1 s.2.2.1 s.2.2.2.1 s.2.2.2.2.1 s.2.2.2.2.2).run) (x0,x1,x2,x3,x4,x5)
def zbbc:Ann:=⟨[([0,1,0,1,1,0,0,1,1,0,0,1,0,1,1,1,1,1,1,1],zaz6)],[],[],za3m,[]⟩
def zbbd:=EndD.mk (LQ.map (LQ.kp 0 0 (LQ.kp 1 0 (LQ.kp 2 0 (LQ.v intP (LQ.k (LQ.c (.own 3)) (LQ.v intP (LQ.v intP (LQ.v intP (LQ.seq (LP.q stakeL) (LQ.v zg (LQ.seq (LP.q linksL) (LQ.seq (LP.q meterL) (LQ.k (LQ.c (.own 4)) (LQ.seq (LP.q z19) (LQ.seq (LP.q providerL) (LQ.v zbc (Par.q zal))))))))))))))))) (fun x=>(x.1,x.2.1,(⟨x.2.2.1,x.2.2.2.1,(d4 x).1,(d4 x).2.1,(d4 x).2.2.1,(d4 x).2.2.2.1,(d8 x).2.2.2⟩:za),(d8 x).1,(d8 x).2.1,(d8 x).2.2.1)) (fun y=>(y.1,y.2.1,y.2.2.1.Height,y.2.2.1.Time,y.2.2.1.Stake,y.2.2.1.Set,y.2.2.1.Links,y.2.2.1.Meter,y.2.2.2.1,(d4 y).1,(d4 y).2,y.2.2.1.Queue)) (fun _=>rfl)) ⟨[2,3,4,6,10,98],[.nilcell 2 96 112 (.asked []),.nilown 10 3 (.ints [])]⟩ [.cells 63 97,.cells 112 7,.cells 63 97,.rows 3,.rows 112]
def zav6:=EndD.mk (LQ.map (LQ.kp 0 0 (LQ.kp 1 0 (LQ.kp 2 0 (LQ.k (LQ.c (.own 3)) (LQ.v intP (LQ.v intP (LQ.seq (LP.q stakeL) (LQ.v zg (LQ.seq (LP.q linksL) (LQ.seq (LP.q meterL) (LQ.k (LQ.c (.own 4)) (LQ.seq (LP.q z19) (LQ.seq (LP.q providerL) (LQ.v zbc (Par.q zal))))))))))))))) (fun x=>((⟨x.1,x.2.1,x.2.2.1,x.2.2.2.1,(d4 x).1,(d4 x).2.1,(d8 x).2⟩:za),(d4 x).2.2.1,(d4 x).2.2.2.1,(d8 x).1)) (fun y=>(y.1.Height,y.1.Time,y.1.Stake,y.1.Set,y.1.Links,y.1.Meter,y.2.1,y.2.2.1,y.2.2.2,y.1.Queue)) (fun _=>rfl)) ⟨[2,3,4,10],[.nilcell 2 96 112 (.asked []),.nilown 10 3 (.ints [])]⟩ [.cells 63 97,.cells 112 7,.cells 63 97,.rows 3,.rows 112]
def zaz7:St→Option LR:=L1 135 9 0 zbbd (.exit 0) zav6 (u6 zrw)
def zs163d:=sub (fb Tryz.f60) [0,1,0,1,1,1,1,1,1,1]
theorem zbbe:zk (za3n).env 0 zs163d zaz7 :=
 zb2 (A:=zbbc) za3o fM ⟨zbbb,trivial⟩ (k:=zab zs163d) (by kernel_rfl) rfl (by rintro ⟨x0,x1,x2,x3,x4,x5⟩;kernel_rfl)
def z7h (a0:za) (a1:Asked): Tr (za×Bool) :=
 (.guard ((0:Int)≤a1.P.V∧(a1.P.V:Int) < 6)
 (.ite (a1.P.Kind==2)
  (.bind (zpf a0.Stake a1.C a1.P.Id) fun v1 =>
  (.leaf ({ a0 with Stake:=v1 },true)))
  (.ite (a1.P.Kind==4)
   (.ite (!(a0.Stake.Validators.Dead.get a1.P.V))
    (.guard ((0:Int)≤a1.C∧(a1.C:Int) < 2)
    (.guard ((zpv a0.Stake a1.P.V (if (a0.Links.Base.get a1.C) > a1.P.Id then (a0.Links.Base.get a1.C) else a1.P.Id) 50).isSome=true)
    (.bind (zfh (((zpv a0.Stake a1.P.V (if (a0.Links.Base.get a1.C) > a1.P.Id then (a0.Links.Base.get a1.C) else a1.P.Id) 50).getD default).1) a1.P.V 2) fun v2 =>
    (.leaf ({ a0 with Stake:=v2.1 },true)))))
    (.leaf (a0,true)))
   (.ite (!(a0.Stake.Validators.Jailed.get a1.P.V))
    (.guard ((100:Int)≠0)
    (.bind (zqf a0.Meter (if (IntKind.i64.wrap (Int.tdiv (a0.Stake.Validators.Tokens.get a1.P.V) 100)) > 1 then (IntKind.i64.wrap (Int.tdiv (a0.Stake.Validators.Tokens.get a1.P.V) 100)) else 1)) fun v3 =>
    (.ite (!v3.2)
     (.leaf (a0,false))
     (.bind (zfh a0.Stake a1.P.V 0) fun v4 =>
     (.bind (zvt a1.P.V 0 ({ a0 with Stake:=v4.1,Meter:=v3.1 }) a1 (default:za) []) fun v6 =>
     (.guard ((0:Int)≤v6.2.1.C∧(v6.2.1.C:Int) < 2)
     (.leaf ({ v6.1 with Links:={ v6.1.Links with Done:=(v6.1.Links.Done.set v6.2.1.C v6.2.2.2) } },true))))))))
    (.bind (zvu a1.P.V 0 a0 a1 (default:za) []) fun v8 =>
    (.guard ((0:Int)≤v8.2.1.C∧(v8.2.1.C:Int) < 2)
    (.leaf ({ v8.1 with Links:={ v8.1.Links with Done:=(v8.1.Links.Done.set v8.2.1.C v8.2.2.2) } },true))))))))
def z37 (a0:za) (a1:Asked):=(z7h a0 a1).run
def zaee:SpecT:=zm 0 (LQ.map (LQ.seq (LQ.agg (LQ.v intP (LQ.v intP (LQ.seq (LP.q stakeL) (LQ.v zg (LQ.seq (LP.q linksL) (LQ.skipR (LP.q meterL) (LQ.c (.own 0))))))))) (LQ.v (Par.ofLP z19) (Par.q zal))) (fun x=>((⟨x.1.1,x.1.2.1,x.1.2.2.1,x.1.2.2.2.1,x.1.2.2.2.2.1,x.1.2.2.2.2.2,x.2.2⟩:za),x.2.1)) (fun y=>((y.1.Height,y.1.Time,y.1.Stake,y.1.Set,y.1.Links,y.1.Meter),y.2,y.1.Queue)) (fun _=>rfl)) 2 [.rows 112] (u2 z7h) default (LQ.map (LQ.seq (LQ.agg (LQ.v intP (LQ.v intP (LQ.seq (LP.q stakeL) (LQ.v zg (LQ.seq (LP.q linksL) (LQ.skipR (LP.q meterL) (LQ.c (.own 0))))))))) (LQ.v boolP (Par.q zal))) (fun x=>((⟨x.1.1,x.1.2.1,x.1.2.2.1,x.1.2.2.2.1,x.1.2.2.2.2.1,x.1.2.2.2.2.2,x.2.2⟩:za),x.2.1)) (fun y=>((y.1.Height,y.1.Time,y.1.Stake,y.1.Set,y.1.Links,y.1.Meter),y.2,y.1.Queue)) (fun _=>rfl)) 2 [.rows 112]
theorem zaky:ze Tryz.prog 60 (zaee).spec :=
 sK (A:=⟨[([0,1,0,1,1,1,1,1,1,1],zaz7)],[],[],za3m,[]⟩) za3o fM Tryz.func60 (c:=(fb Tryz.f60)) (by kernel_rfl) (Lc:=0) ⟨zbbe,trivial⟩ _ _ 9 _ _ _ _ _ _ [] (by rintro ⟨a0,a1⟩;kernel_rfl)
def zav7:List (List Nat):=[[1,2,4],[1,2,4,34],[4,5,6],[1,2,4,7],[1,2,4,7],[1,2,4,7],[1,4,7],[1,4,7,8],[1,4,7,8],[1,4,7,55,56,57],[1,4,7,55,56,57,58],[1,4,7,10,55,56,57],[1,4,7,10,11,55,56,57],[1,4,7,10,11,55,56,57,62,63,64],[1,4,7,10,11,55,56,57,62,63,64,65],[1,4,7,10,11,13,55,56,57,62,63,64],[1,4,7,10,11,55,56,57,62,63,64],[1,4,7,10,11,55,56,57,62,63,64],[1,4,7,10,11,14,55,56,57],[1,4,7,10,14,55,56,57,78],[1,4,7,10,14,55,56,57],[1,4,7,10,55,56,57,86],[1,4,7,55,56,57],[1,4,7,55,56,57],[1,4,7],[1,4,7,15],[1,4,7,15],[1,4,7,15,107],[1,4,7,15,107,108],[1,4,7,15,16,107],[1,4,7,15,17,107],[1,4,7,15,17,18,107],[1,4,7,15,17,18,107,142],[1,4,7,15,17,19,20,107],[1,4,7,15,17,19,107,156],[1,4,7,15,17,20,21,107],[1,4,7,15,17,21,107,169],[1,4,7,15,107],[1,4,7,15,107],[4,5,6]]
noncomputable def zav8:EnvT:=⟨Tryz.prog,zw [(51,zbt),(53,zbq),(59,zabb),(58,zz2),(60,zaee),(61,z8d),(62,zaij),(63,zaed),(64,ziw),(65,zaau)]⟩
theorem zav9:(zav8).Ok:=zd ⟨zb8,zce,zaii,z8t,zaky,zagg,zaoc,zakx,zlr,zaec,trivial⟩
def zec (x0:Int) (x1:Bool) (x2 x3 x4 x5:Int) (x6 x7:za) (x8:Asked) (x9:(List Asked)): Tr ((Int×Bool×Int×Int×Int×Int×za×za×Asked×(List Asked))⊕(Int×Bool×Int×Int×za×za×Asked×(List Asked))) :=
 (.ite (decide (x5 < x4))
  (.guard ((0:Int)≤x5∧x5 < ((Sl.len (.asked x7.Queue):Nat):Int))
  (.leaf (.inl (x0,x1||(((x7.Queue.getD x5.toNat default).C)==x8.C),x2,x3,x4,IntKind.i64.wrap (x5+1),x6,x7,x8,x9))))
  (.leaf (.inr (x0,x1,x2,x3,x6,x7,x8,x9))))
def zjj (x0:Int) (x1:Bool) (x2 x3 x4 x5:Int) (x6 x7:za) (x8:Asked) (x9:(List Asked)):=zbp (fun s:Int×Bool×Int×Int×Int×Int×za×za×Asked×(List Asked)=>(zec s.1 s.2.1 s.2.2.1 s.2.2.2.1 s.2.2.2.2.1 s.2.2.2.2.2.1 s.2.2.2.2.2.2.1 s.2.2.2.2.2.2.2.1 s.2.2.2.2.2.2.2.2.1 s.2.2.2.2.2.2.2.2.2).run) (x0,x1,x2,x3,x4,x5,x6,x7,x8,x9)
def zbbf:Ann:=⟨[],[],[],zav7,[(20,[6600007])]⟩
def zbbg:=EndD.mk (LQ.map (LQ.v intP (LQ.kp 0 0 (LQ.kp 1 0 (LQ.kp 2 0 (LQ.v boolP (LQ.k (LQ.c (.own 3)) (LQ.v intP (LQ.v intP (LQ.k (LQ.c (.own 4)) (LQ.v intP (LQ.v intP (LQ.seq (LP.q providerL) (LQ.v intP (LQ.v intP (LQ.seq (LP.q stakeL) (LQ.v zg (LQ.seq (LP.q linksL) (LQ.seq (LP.q meterL) (LQ.k (LQ.c (.own 4)) (LQ.seq (LP.q z19) (LQ.v zal (Par.q zal)))))))))))))))))))))) (fun x=>(x.1,x.2.1,x.2.2.1,x.2.2.2.1,(d4 x).1,(d4 x).2.1,(d4 x).2.2.1,(⟨(d4 x).2.2.2.1,(d8 x).1,(d8 x).2.1,(d8 x).2.2.1,(d8 x).2.2.2.1,(d12 x).1,(d12 x).2.2.2⟩:za),(d12 x).2.1,(d12 x).2.2.1)) (fun y=>(y.1,y.2.1,y.2.2.1,y.2.2.2.1,(d4 y).1,(d4 y).2.1,(d4 y).2.2.1,(d4 y).2.2.2.1.Height,(d4 y).2.2.2.1.Time,(d4 y).2.2.2.1.Stake,(d4 y).2.2.2.1.Set,(d4 y).2.2.2.1.Links,(d4 y).2.2.2.1.Meter,(d8 y).1,(d8 y).2,(d4 y).2.2.2.1.Queue)) (fun _=>rfl)) ⟨[1,4,7,10,11,55,56,57,62,63,64],[.nilcell 7 96 112 (.asked []),.nilown 55 112 (.asked []),.nilown 62 112 (.asked [])]⟩ [.cells 63 97,.cells 63 97,.cells 112 7,.rows 112,.rows 112]
def zawa:=EndD.mk (LQ.map (LQ.v intP (LQ.kp 0 0 (LQ.kp 1 0 (LQ.kp 2 0 (LQ.v boolP (LQ.k (LQ.c (.own 3)) (LQ.v intP (LQ.v intP (LQ.seq (LP.q providerL) (LQ.v intP (LQ.v intP (LQ.seq (LP.q stakeL) (LQ.v zg (LQ.seq (LP.q linksL) (LQ.seq (LP.q meterL) (LQ.k (LQ.c (.own 4)) (LQ.seq (LP.q z19) (LQ.v zal (Par.q zal))))))))))))))))))) (fun x=>(x.1,x.2.1,x.2.2.1,x.2.2.2.1,(d4 x).1,(⟨(d4 x).2.1,(d4 x).2.2.1,(d4 x).2.2.2.1,(d8 x).1,(d8 x).2.1,(d8 x).2.2.1,(d12 x).2⟩:za),(d8 x).2.2.2.1,(d12 x).1)) (fun y=>(y.1,y.2.1,y.2.2.1,y.2.2.2.1,(d4 y).1,(d4 y).2.1.Height,(d4 y).2.1.Time,(d4 y).2.1.Stake,(d4 y).2.1.Set,(d4 y).2.1.Links,(d4 y).2.1.Meter,(d4 y).2.2.1,(d4 y).2.2.2,(d4 y).2.1.Queue)) (fun _=>rfl)) ⟨[1,4,7,10,11,55,56,57],[.nilcell 7 96 112 (.asked []),.nilown 55 112 (.asked [])]⟩ [.cells 63 97,.cells 63 97,.cells 112 7,.rows 112,.rows 112]
def zaz8:St→Option LR:=L1 189 12 0 zbbg (.exit 2) zawa (u10 zec)
def zs164a:=sub (fb Tryz.f23) [0,1,0,1,1,0,0,1,1,0,0,1,0,1,1,1,1,1,1,1,1]
theorem zbbh:zk (zav8).env 0 zs164a zaz8 :=
 zb2 (A:=zbbf) zav9 fM trivial (k:=zab zs164a) (by kernel_rfl) rfl (by rintro ⟨x0,x1,x2,x3,x4,x5,x6,x7,x8,x9⟩;kernel_rfl)
def zed (x0 x1 x2:Int) (x3 x4:za) (x5:(List Asked)): Tr ((Int×Int×Int×za×za×(List Asked))⊕(Int×za×za)) :=
 (.ite (decide (x2 < x1))
  (.guard ((0:Int)≤x2∧x2 < ((Sl.len (.asked x5):Nat):Int))
  (.bind (zjj x0 false x1 x2 ((x4.Queue.length:Nat):Int) 0 x3 x4 (x5.getD x2.toNat default) x5) fun v3 =>
  (.ite (!v3.2.1)
   (.bind (z37 v3.2.2.2.2.2.1 v3.2.2.2.2.2.2.1) fun v4 =>
   (.ite (!v4.2)
    (.guard ((Sl.len (.asked v4.1.Queue)+Sl.len (.asked [v3.2.2.2.2.2.2.1]))*88≤140737488355328)
    (.leaf (.inl (v3.1,v3.2.2.1,IntKind.i64.wrap (v3.2.2.2.1+1),v3.2.2.2.2.1,{ v4.1 with Queue:=v4.1.Queue++[v3.2.2.2.2.2.2.1] },v3.2.2.2.2.2.2.2))))
    (.leaf (.inl (v3.1,v3.2.2.1,IntKind.i64.wrap (v3.2.2.2.1+1),v3.2.2.2.2.1,v4.1,v3.2.2.2.2.2.2.2)))))
   (.ite (true)
    (.guard ((Sl.len (.asked v3.2.2.2.2.2.1.Queue)+Sl.len (.asked [v3.2.2.2.2.2.2.1]))*88≤140737488355328)
    (.leaf (.inl (v3.1,v3.2.2.1,IntKind.i64.wrap (v3.2.2.2.1+1),v3.2.2.2.2.1,{ v3.2.2.2.2.2.1 with Queue:=v3.2.2.2.2.2.1.Queue++[v3.2.2.2.2.2.2.1] },v3.2.2.2.2.2.2.2))))
    (.leaf (.inl (v3.1,v3.2.2.1,IntKind.i64.wrap (v3.2.2.2.1+1),v3.2.2.2.2.1,v3.2.2.2.2.2.1,v3.2.2.2.2.2.2.2)))))))
  (.leaf (.inr (x0,x3,x4))))
def zfm (x0 x1 x2:Int) (x3 x4:za) (x5:(List Asked)):=zbp (fun s:Int×Int×Int×za×za×(List Asked)=>(zed s.1 s.2.1 s.2.2.1 s.2.2.2.1 s.2.2.2.2.1 s.2.2.2.2.2).run) (x0,x1,x2,x3,x4,x5)
def zbbi:Ann:=⟨[([0,1,0,1,1,0,0,1,1,0,0,1,0,1,1,1,1,1,1,1,1],zaz8)],[],[],zav7,[(20,[6600007])]⟩
def zbbj:=EndD.mk (LQ.map (LQ.v intP (LQ.kp 0 0 (LQ.kp 1 0 (LQ.k (LQ.c (.own 2)) (LQ.v intP (LQ.v intP (LQ.seq (LP.q providerL) (LQ.v intP (LQ.v intP (LQ.seq (LP.q stakeL) (LQ.v zg (LQ.seq (LP.q linksL) (LQ.seq (LP.q meterL) (LQ.k (LQ.c (.own 3)) (LQ.v zal (Par.q zal)))))))))))))))) (fun x=>(x.1,x.2.1,x.2.2.1,x.2.2.2.1,(⟨(d4 x).1,(d4 x).2.1,(d4 x).2.2.1,(d4 x).2.2.2.1,(d8 x).1,(d8 x).2.1,(d8 x).2.2.2⟩:za),(d8 x).2.2.1)) (fun y=>(y.1,y.2.1,y.2.2.1,y.2.2.2.1,(d4 y).1.Height,(d4 y).1.Time,(d4 y).1.Stake,(d4 y).1.Set,(d4 y).1.Links,(d4 y).1.Meter,(d4 y).2,(d4 y).1.Queue)) (fun _=>rfl)) ⟨[1,4,7,55,56,57],[.pubC 7 63,.pubC 7 65,.nilcell 7 96 112 (.asked []),.nilown 55 112 (.asked [])]⟩ [.cells 63 97,.cells 63 97,.rows 112,.rows 112]
def zawb:=EndD.mk (LQ.map (LQ.v intP (LQ.kp 0 0 (LQ.kp 1 0 (LQ.seq (LP.q providerL) (LQ.v intP (LQ.v intP (LQ.seq (LP.q stakeL) (LQ.v zg (LQ.seq (LP.q linksL) (LQ.seq (LP.q meterL) (LQ.k (LQ.c (.own 2)) (Par.q zal)))))))))))) (fun x=>(x.1,x.2.1,(⟨x.2.2.1,x.2.2.2.1,(d4 x).1,(d4 x).2.1,(d4 x).2.2.1,(d4 x).2.2.2.1,(d8 x)⟩:za))) (fun y=>(y.1,y.2.1,y.2.2.Height,y.2.2.Time,y.2.2.Stake,y.2.2.Set,y.2.2.Links,y.2.2.Meter,y.2.2.Queue)) (fun _=>rfl)) ⟨[1,4,7],[.pubC 7 63,.pubC 7 65,.nilcell 7 96 112 (.asked [])]⟩ [.cells 63 97,.cells 63 97,.rows 112]
def zaz9:St→Option LR:=L1 189 12 0 zbbj (.exit 0) zawb (u6 zed)
def zs164b:=sub (fb Tryz.f23) [0,1,0,1,1,1,1,1,1,1,1]
theorem zbbk:zk (zav8).env 0 zs164b zaz9 :=
 zb2 (A:=zbbi) zav9 fM ⟨zbbh,trivial⟩ (k:=zab zs164b) (by kernel_rfl) rfl (by rintro ⟨x0,x1,x2,x3,x4,x5⟩;kernel_rfl)
def zee (x0:Int) (x1:(List Int)) (x2:Int) (x3 x4:za): Tr ((Int×(List Int)×Int×za×za)⊕((List Int)×za×za)) :=
 (.ite (decide (x2 < 2))
  (.guard ((0:Int)≤x2∧(x2:Int) < 2)
  (.guard ((zje (x4.Links.Told.get x2) x4.Set).isSome=true)
  (.ite ((!(x4.Links.On.get x2))||(((IntKind.i64.wrap (((((zje (x4.Links.Told.get x2) x4.Set).getD default).length:Nat):Int)+(((x4.Links.Done.get x2).length:Nat):Int)))==0)&&(!(x4.Links.Fresh.get x2))))
   (.leaf (.inl (x0,x1,IntKind.i64.wrap (x2+1),x3,x4)))
   (.guard ((za3 (⟨1,x4.Height,0,0,((zje (x4.Links.Told.get x2) x4.Set).getD default),x4.Links.Done.get x2⟩:Packet)).isSome=true)
   (.ite ((((za3 (⟨1,x4.Height,0,0,((zje (x4.Links.Told.get x2) x4.Set).getD default),x4.Links.Done.get x2⟩:Packet)).getD default).2) != 0)
    (.leaf (.inl (x0,x1,IntKind.i64.wrap (x2+1),x3,x4)))
    (.bind (z1i (⟨x4.Links.Said.get x2,x4.Links.Due.get x2,x4.Links.Got.get x2,x4.Links.Closed.get x2⟩:zcl) (((za3 (⟨1,x4.Height,0,0,((zje (x4.Links.Told.get x2) x4.Set).getD default),x4.Links.Done.get x2⟩:Packet)).getD default).1) (IntKind.i64.wrap (x0+40))) fun v8 =>
    (.ite (v8.2 != 0)
     (.leaf (.inl (x0,x1,IntKind.i64.wrap (x2+1),x3,x4)))
     (.guard ((0+Sl.len (.powers x4.Set))*16≤140737488355328)
     (.leaf (.inl (x0,x1,IntKind.i64.wrap (x2+1),x3,{ x4 with Links:={ x4.Links with Told:=(x4.Links.Told.set x2 x4.Set),Fresh:=(x4.Links.Fresh.set x2 false),Done:=(x4.Links.Done.set x2 []),Said:=(x4.Links.Said.set x2 v8.1.Said),Due:=(x4.Links.Due.set x2 v8.1.Due),Got:=(x4.Links.Got.set x2 v8.1.Got),Closed:=(x4.Links.Closed.set x2 v8.1.Closed) } })))))))))))
  (.leaf (.inr (x1,x3,x4))))
def zjk (x0:Int) (x1:(List Int)) (x2:Int) (x3 x4:za):=zbp (fun s:Int×(List Int)×Int×za×za=>(zee s.1 s.2.1 s.2.2.1 s.2.2.2.1 s.2.2.2.2).run) (x0,x1,x2,x3,x4)
def zbbl:Ann:=⟨[],[],[],zav7,[(20,[6600007])]⟩
def zbbm:=EndD.mk (LQ.map (LQ.v intP (LQ.kp 0 0 (LQ.kp 1 0 (LQ.v zbc (LQ.v intP (LQ.seq (LP.q providerL) (LQ.v intP (LQ.v intP (LQ.seq (LP.q stakeL) (LQ.v zg (LQ.seq (LP.q linksL) (LQ.seq (LP.q meterL) (LQ.k (LQ.c (.own 2)) (Par.q zal)))))))))))))) (fun x=>(x.1,x.2.1,x.2.2.1,x.2.2.2.1,(⟨(d4 x).1,(d4 x).2.1,(d4 x).2.2.1,(d4 x).2.2.2.1,(d8 x).1,(d8 x).2.1,(d8 x).2.2⟩:za))) (fun y=>(y.1,y.2.1,y.2.2.1,y.2.2.2.1,(d4 y).Height,(d4 y).Time,(d4 y).Stake,(d4 y).Set,(d4 y).Links,(d4 y).Meter,(d4 y).Queue)) (fun _=>rfl)) ⟨[1,4,7,15,107],[.nilcell 7 96 112 (.asked []),.pub 15,.nilsl 15 (.ints [])]⟩ [.cells 63 97,.cells 63 97,.rows 112]
def zawc:=EndD.mk (LQ.map (LQ.kp 0 0 (LQ.kp 1 0 (LQ.v zbc (LQ.seq (LP.q providerL) (LQ.v intP (LQ.v intP (LQ.seq (LP.q stakeL) (LQ.v zg (LQ.seq (LP.q linksL) (LQ.seq (LP.q meterL) (LQ.k (LQ.c (.own 2)) (Par.q zal)))))))))))) (fun x=>(x.1,x.2.1,(⟨x.2.2.1,x.2.2.2.1,(d4 x).1,(d4 x).2.1,(d4 x).2.2.1,(d4 x).2.2.2.1,(d8 x)⟩:za))) (fun y=>(y.1,y.2.1,y.2.2.Height,y.2.2.Time,y.2.2.Stake,y.2.2.Set,y.2.2.Links,y.2.2.Meter,y.2.2.Queue)) (fun _=>rfl)) ⟨[4,7,15],[.nilcell 7 96 112 (.asked []),.pub 15,.nilsl 15 (.ints [])]⟩ [.cells 63 97,.cells 63 97,.rows 112]
def za0a:St→Option LR:=L1 189 12 0 zbbm (.exit 4) zawc (u5 zee)
def zs164c:=sub (fb Tryz.f23) [0,1,0,1,1,1,1,1,1,1,1,1,1,1,1]
theorem zbbn:zk (zav8).env 0 zs164c za0a :=
 zb2 (A:=zbbl) zav9 fM trivial (k:=zab zs164c) (by kernel_rfl) rfl (by rintro ⟨x0,x1,x2,x3,x4⟩;kernel_rfl)
def zot (a0:za) (a1:Int): Tr (za×(List Int)×Int) :=
 (.bind (zag a0) fun v1 =>
 (.ite (((!v1)||(decide (a1 < a0.Time)))||(decide (a1 > 1099511627776)))
  (.leaf (a0,[],2))
  (.bind (za0 a0) fun v2 =>
  (.guard ((zpu a0.Set).isSome=true)
  (.guard ((zld v2.Meter ((zpu a0.Set).getD default) a1).isSome=true)
  (.bind (zfm a1 ((v2.Queue.length:Nat):Int) 0 (default:za) (⟨IntKind.i64.wrap (v2.Height+1),a1,v2.Stake,v2.Set,v2.Links,((zld v2.Meter ((zpu a0.Set).getD default) a1).getD default),[]⟩:za) v2.Queue) fun v5 =>
  (.bind (zru v5.2.2.Stake v5.1) fun v6 =>
  (.bind (z7g v6.1) fun v7 =>
  (.bind (zjk v5.1 v6.2.1 0 v5.2.1 ({ v5.2.2 with Stake:=v6.1,Set:=v7 })) fun v9 =>
  (.leaf (v9.2.2,v9.1,0)))))))))))
def zbb (a0:za) (a1:Int):=(zot a0 a1).run
def zwp:SpecT:=zm 0 (LQ.v (Par.ofLP providerL) (Par.q intP)) 2 [] (u2 zot) default (LQ.v (Par.ofLP providerL) (LQ.v zbc (Par.q intP))) 3 []
theorem z51:ze Tryz.prog 23 (zwp).spec :=
 sK (A:=⟨[([0,1,0,1,1,1,1,1,1,1,1],zaz9),([0,1,0,1,1,1,1,1,1,1,1,1,1,1,1],za0a)],[],[],zav7,[(20,[6600007])]⟩) zav9 fM Tryz.func23 (c:=(fb Tryz.f23)) (by kernel_rfl) (Lc:=0) ⟨zbbk,zbbn,trivial⟩ _ _ 12 _ _ _ _ _ _ [.pubB 4,.pub 5] (by rintro ⟨a0,a1⟩;kernel_rfl)
end
