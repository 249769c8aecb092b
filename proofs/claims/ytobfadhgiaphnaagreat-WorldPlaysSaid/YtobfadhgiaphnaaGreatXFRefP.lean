/-
  The functions, each by its tree.
-/
import Derived.Test.YtobfadhgiaphnaaGreatXAbC
import Derived.Test.YtobfadhgiaphnaaGreatXFBank
import Derived.Test.YtobfadhgiaphnaaGreatXFCodec
import Derived.Test.YtobfadhgiaphnaaGreatXFLine
import Derived.Test.YtobfadhgiaphnaaGreatXFRatio
import Derived.Test.YtobfadhgiaphnaaGreatXFRefA
import Derived.Test.YtobfadhgiaphnaaGreatXFRefB
import Derived.Test.YtobfadhgiaphnaaGreatXFRefC
import Derived.Test.YtobfadhgiaphnaaGreatXFacts
namespace Go.Proofs.YtobfadhgiaphnaaGreat.Ab
open Go Go.RowKit
open Go.IntKind (i64 u64)
set_option maxRecDepth 100000
set_option linter.unusedVariables false
set_option linter.unusedSimpArgs false
noncomputable section
def za6w:List (List Nat):=[[1,2],[1,2],[1,2],[1,2,16],[1,2,16,17],[1,2,3,16],[1,2,4,16],[1,2,16],[1,2,16],[1,2,5],[1,2,5,48,49,50],[1,2,5,48,49,50,51],[1,2,5,7,48,49,50],[1,2,5,48,49,50],[1,2,5,48,49,50],[1,2],[2]]
noncomputable def za6x:EnvT:=⟨Tryz.prog,zw [(56,zfd),(76,zrs),(101,zil)]⟩
theorem za6y:(za6x).Ok:=zd ⟨zf7,zx7,zk6,trivial⟩
def zco (x0:Int) (x1 x2:za): Tr ((Int×za×za)⊕(za×za)) :=
 (.ite (decide (x0 < 2))
  (.guard ((0:Int)≤x0∧(x0:Int) < 2)
  (.guard ((0+Sl.len (.powers (x1.Links.Told.get x0)))*16≤140737488355328)
  (.guard ((0+Sl.len (.ints (x1.Links.Done.get x0)))*8≤140737488355328)
  (.guard ((zap (⟨x1.Links.Said.get x0,x1.Links.Due.get x0,x1.Links.Got.get x0,x1.Links.Closed.get x0⟩:zbs)).isSome=true)
  (.leaf (.inl (i64.wrap (x0+1),{ x1 with Links:={ x1.Links with Told:=(x1.Links.Told.set x0 (x1.Links.Told.get x0)),Done:=(x1.Links.Done.set x0 (x1.Links.Done.get x0)),Said:=(x1.Links.Said.set x0 (((zap (⟨x1.Links.Said.get x0,x1.Links.Due.get x0,x1.Links.Got.get x0,x1.Links.Closed.get x0⟩:zbs)).getD default).Said)),Due:=(x1.Links.Due.set x0 (((zap (⟨x1.Links.Said.get x0,x1.Links.Due.get x0,x1.Links.Got.get x0,x1.Links.Closed.get x0⟩:zbs)).getD default).Due)),Got:=(x1.Links.Got.set x0 (((zap (⟨x1.Links.Said.get x0,x1.Links.Due.get x0,x1.Links.Got.get x0,x1.Links.Closed.get x0⟩:zbs)).getD default).Got)),Closed:=(x1.Links.Closed.set x0 (((zap (⟨x1.Links.Said.get x0,x1.Links.Due.get x0,x1.Links.Got.get x0,x1.Links.Closed.get x0⟩:zbs)).getD default).Closed)) } },x2)))))))
  (.leaf (.inr (x1,x2))))
def zje (x0:Int) (x1 x2:za):=zbl (fun s:Int×za×za=>(zco s.1 s.2.1 s.2.2).run) (x0,x1,x2)
def zben:Ann:=⟨[],[],[],za6w,[]⟩
def zbeo:=EndD.mk (LQ.map (LQ.kp 0 0 (LQ.kp 1 0 (LQ.v intP (LQ.v intP (LQ.v intP (LQ.seq (LP.q bankL) (LQ.seq (LP.q validatorsL) (LQ.seq (LP.q (a4L (a6L (LP.one intP)))) (LQ.k (LQ.c (.own 2)) (LQ.v intP (LQ.k (LQ.c (.own 3)) (LQ.seq (LP.q linksL) (LQ.seq (LP.q meterL) (LQ.v zac (LQ.seq (LP.q providerL) (LQ.v zbx (Par.q zf))))))))))))))))) (fun x=>(x.1,(⟨x.2.1,x.2.2.1,(⟨x.2.2.2.1,(d4 x).1,(d4 x).2.1,(d8 x).2.2.2.1,(d4 x).2.2.1⟩:Stake),(d12 x),(d4 x).2.2.2.1,(d8 x).1,(d8 x).2.1⟩:za),(d8 x).2.2.1)) (fun y=>(y.1,y.2.1.Height,y.2.1.Time,y.2.1.Stake.Bank,y.2.1.Stake.Validators,y.2.1.Stake.Shares,y.2.1.Stake.Next,y.2.1.Links,y.2.1.Meter,y.2.1.Queue,y.2.2,y.2.1.Stake.Waits,y.2.1.Set)) (fun _=>rfl)) ⟨[1,2,16],[.nilcell 1 63 127 (.waits []),.nilcell 1 65 154 (.powers [])]⟩ [.cells 63 97,.cells 63 97,.rows 127,.rows 154]
def zayi:=EndD.mk (LQ.map (LQ.kp 0 0 (LQ.kp 1 0 (LQ.v intP (LQ.v intP (LQ.seq (LP.q bankL) (LQ.seq (LP.q validatorsL) (LQ.seq (LP.q (a4L (a6L (LP.one intP)))) (LQ.k (LQ.c (.own 2)) (LQ.v intP (LQ.k (LQ.c (.own 3)) (LQ.seq (LP.q linksL) (LQ.seq (LP.q meterL) (LQ.v zac (LQ.seq (LP.q providerL) (LQ.v zbx (Par.q zf)))))))))))))))) (fun x=>((⟨x.1,x.2.1,(⟨x.2.2.1,x.2.2.2.1,(d4 x).1,(d8 x).2.2.1,(d4 x).2.1⟩:Stake),(d8 x).2.2.2,(d4 x).2.2.1,(d4 x).2.2.2.1,(d8 x).1⟩:za),(d8 x).2.1)) (fun y=>(y.1.Height,y.1.Time,y.1.Stake.Bank,y.1.Stake.Validators,y.1.Stake.Shares,y.1.Stake.Next,y.1.Links,y.1.Meter,y.1.Queue,y.2,y.1.Stake.Waits,y.1.Set)) (fun _=>rfl)) ⟨[1,2],[.nilcell 1 63 127 (.waits []),.nilcell 1 65 154 (.powers [])]⟩ [.cells 63 97,.cells 63 97,.rows 127,.rows 154]
def za23:St→Option LR:=L1 67 10 0 zbeo (.exit 0) zayi (u3 zco)
def zs152a:=sub (fb Tryz.f53) [0,1,0,1,1,1]
theorem zbep:zk (za6x).env 0 zs152a za23 :=
 zb5 (A:=zben) za6y fM trivial (k:=z8 zs152a) (by kernel_rfl) rfl (by rintro ⟨x0,x1,x2⟩;kernel_rfl)
def zgd (x0:(List Asked)) (x1 x2:Int) (x3 x4:za) (x5:(List Asked)): Tr (((List Asked)×Int×Int×za×za×(List Asked))⊕(za×za×(List Asked))) :=
 (.ite (decide (x2 < x1))
  (.guard ((0:Int)≤x2∧x2 < ((Sl.len (.asked x0):Nat):Int))
  (.guard ((zbd ((x0.getD x2.toNat default).P)).isSome=true)
  (.guard ((Sl.len (.asked x5)+Sl.len (.asked [(⟨(x0.getD x2.toNat default).C,((zbd ((x0.getD x2.toNat default).P)).getD default)⟩:Asked)]))*88≤140737488355328)
  (.leaf (.inl (x0,x1,i64.wrap (x2+1),x3,x4,x5++[(⟨(x0.getD x2.toNat default).C,((zbd ((x0.getD x2.toNat default).P)).getD default)⟩:Asked)]))))))
  (.leaf (.inr (x3,x4,x5))))
def zo3 (x0:(List Asked)) (x1 x2:Int) (x3 x4:za) (x5:(List Asked)):=zbl (fun s:(List Asked)×Int×Int×za×za×(List Asked)=>(zgd s.1 s.2.1 s.2.2.1 s.2.2.2.1 s.2.2.2.2.1 s.2.2.2.2.2).run) (x0,x1,x2,x3,x4,x5)
def zbeq:Ann:=⟨[],[],[],za6w,[]⟩
def zber:=EndD.mk (LQ.map (LQ.kp 0 0 (LQ.kp 1 0 (LQ.k (LQ.c (.own 2)) (LQ.v zac (LQ.v intP (LQ.v intP (LQ.v intP (LQ.v intP (LQ.seq (LP.q bankL) (LQ.seq (LP.q validatorsL) (LQ.seq (LP.q (a4L (a6L (LP.one intP)))) (LQ.k (LQ.c (.own 3)) (LQ.v intP (LQ.k (LQ.c (.own 4)) (LQ.seq (LP.q linksL) (LQ.seq (LP.q meterL) (LQ.v zac (LQ.seq (LP.q providerL) (LQ.v zac (LQ.v zbx (Par.q zf))))))))))))))))))))) (fun x=>(x.1,x.2.1,x.2.2.1,(⟨x.2.2.2.1,(d4 x).1,(⟨(d4 x).2.1,(d4 x).2.2.1,(d4 x).2.2.2.1,(d12 x).2.2.1,(d8 x).1⟩:Stake),(d12 x).2.2.2,(d8 x).2.1,(d8 x).2.2.1,(d8 x).2.2.2.1⟩:za),(d12 x).1,(d12 x).2.1)) (fun y=>(y.1,y.2.1,y.2.2.1,y.2.2.2.1.Height,y.2.2.2.1.Time,y.2.2.2.1.Stake.Bank,y.2.2.2.1.Stake.Validators,y.2.2.2.1.Stake.Shares,y.2.2.2.1.Stake.Next,y.2.2.2.1.Links,y.2.2.2.1.Meter,y.2.2.2.1.Queue,(d4 y).1,(d4 y).2,y.2.2.2.1.Stake.Waits,y.2.2.2.1.Set)) (fun _=>rfl)) ⟨[1,2,5,48,49,50],[.nilcell 1 63 127 (.waits []),.nilcell 1 65 154 (.powers []),.nilown 5 112 (.asked []),.pub 48,.nilsl 48 (.asked [])]⟩ [.cells 63 97,.cells 63 97,.rows 112,.rows 127,.rows 154]
def zayj:=EndD.mk (LQ.map (LQ.kp 0 0 (LQ.kp 1 0 (LQ.k (LQ.c (.own 2)) (LQ.v intP (LQ.v intP (LQ.seq (LP.q bankL) (LQ.seq (LP.q validatorsL) (LQ.seq (LP.q (a4L (a6L (LP.one intP)))) (LQ.k (LQ.c (.own 3)) (LQ.v intP (LQ.k (LQ.c (.own 4)) (LQ.seq (LP.q linksL) (LQ.seq (LP.q meterL) (LQ.v zac (LQ.seq (LP.q providerL) (LQ.v zac (LQ.v zbx (Par.q zf)))))))))))))))))) (fun x=>((⟨x.1,x.2.1,(⟨x.2.2.1,x.2.2.2.1,(d4 x).1,(d8 x).2.2.2.1,(d4 x).2.1⟩:Stake),(d12 x),(d4 x).2.2.1,(d4 x).2.2.2.1,(d8 x).1⟩:za),(d8 x).2.1,(d8 x).2.2.1)) (fun y=>(y.1.Height,y.1.Time,y.1.Stake.Bank,y.1.Stake.Validators,y.1.Stake.Shares,y.1.Stake.Next,y.1.Links,y.1.Meter,y.1.Queue,y.2.1,y.2.2,y.1.Stake.Waits,y.1.Set)) (fun _=>rfl)) ⟨[1,2,5],[.nilcell 1 63 127 (.waits []),.nilcell 1 65 154 (.powers []),.nilown 5 112 (.asked [])]⟩ [.cells 63 97,.cells 63 97,.rows 112,.rows 127,.rows 154]
def za24:St→Option LR:=L1 67 10 0 zber (.exit 2) zayj (u6 zgd)
def zs152b:=sub (fb Tryz.f53) [0,1,0,1,1,1,1,1]
theorem zbes:zk (za6x).env 0 zs152b za24 :=
 zb5 (A:=zbeq) za6y fM trivial (k:=z8 zs152b) (by kernel_rfl) rfl (by rintro ⟨x0,x1,x2,x3,x4,x5⟩;kernel_rfl)
def zop (a0:za): Tr (za) :=
 (.bind (zc4 a0.Stake) fun v1 =>
 (.guard ((0+Sl.len (.powers a0.Set))*16≤140737488355328)
 (.bind (zje 0 ({ a0 with Stake:=v1 }) (default:za)) fun v2 =>
 (.bind (zo3 v2.1.Queue ((v2.1.Queue.length:Nat):Int) 0 v2.1 v2.2 []) fun v3 =>
 (.leaf ({ v3.1 with Queue:=v3.2.2 }))))))
def zm7 (a0:za):=(zop a0).run
def zwe:SpecT:=zn 0 (Par.q (Par.ofLP providerL)) 1 [] zop default (Par.q (Par.ofLP providerL)) 1 []
theorem z58:ze Tryz.prog 53 (zwe).spec :=
 sK (A:=⟨[([0,1,0,1,1,1],za23),([0,1,0,1,1,1,1,1],za24)],[],[],za6w,[]⟩) za6y fM Tryz.func53 (c:=(fb Tryz.f53)) (by kernel_rfl) (Lc:=0) ⟨zbep,zbes,trivial⟩ _ _ 10 _ _ _ _ _ _ [.pubB 2] (by rintro a0;kernel_rfl)
def za6z:List (List Nat):=[[1,2],[1,2],[1,2],[1,2,16],[1,2,16,17],[1,2,3,16],[1,2,4,16],[1,2,16],[1,2,16],[1,2,5],[1,2,5,48,49,50],[1,2,5,48,49,50,51],[1,2,5,7,48,49,50],[1,2,5,48,49,50],[1,2,5,48,49,50],[1,2],[2]]
noncomputable def za60:EnvT:=⟨Tryz.prog,zw [(56,zfd),(76,zrs),(101,zil)]⟩
theorem za61:(za60).Ok:=zd ⟨zf7,zx7,zk6,trivial⟩
def zbv (x0:Int) (x1 x2:za): Tr ((Int×za×za)⊕(za×za)) :=
 (.ite (decide (x0 < 2))
  (.guard ((0:Int)≤x0∧(x0:Int) < 2)
  (.guard ((0+Sl.len (.powers (x1.Links.Told.get x0)))*16≤140737488355328)
  (.guard ((0+Sl.len (.ints (x1.Links.Done.get x0)))*8≤140737488355328)
  (.guard ((zap (⟨x1.Links.Said.get x0,x1.Links.Due.get x0,x1.Links.Got.get x0,x1.Links.Closed.get x0⟩:zbs)).isSome=true)
  (.leaf (.inl (i64.wrap (x0+1),{ x1 with Links:={ x1.Links with Told:=(x1.Links.Told.set x0 (x1.Links.Told.get x0)),Done:=(x1.Links.Done.set x0 (x1.Links.Done.get x0)),Said:=(x1.Links.Said.set x0 (((zap (⟨x1.Links.Said.get x0,x1.Links.Due.get x0,x1.Links.Got.get x0,x1.Links.Closed.get x0⟩:zbs)).getD default).Said)),Due:=(x1.Links.Due.set x0 (((zap (⟨x1.Links.Said.get x0,x1.Links.Due.get x0,x1.Links.Got.get x0,x1.Links.Closed.get x0⟩:zbs)).getD default).Due)),Got:=(x1.Links.Got.set x0 (((zap (⟨x1.Links.Said.get x0,x1.Links.Due.get x0,x1.Links.Got.get x0,x1.Links.Closed.get x0⟩:zbs)).getD default).Got)),Closed:=(x1.Links.Closed.set x0 (((zap (⟨x1.Links.Said.get x0,x1.Links.Due.get x0,x1.Links.Got.get x0,x1.Links.Closed.get x0⟩:zbs)).getD default).Closed)) } },x2)))))))
  (.leaf (.inr (x1,x2))))
def zhh (x0:Int) (x1 x2:za):=zbl (fun s:Int×za×za=>(zbv s.1 s.2.1 s.2.2).run) (x0,x1,x2)
def zbet:Ann:=⟨[],[],[],za6z,[]⟩
def zbeu:=EndD.mk (LQ.map (LQ.kp 0 0 (LQ.kp 1 0 (LQ.v intP (LQ.v intP (LQ.v intP (LQ.seq (LP.q bankL) (LQ.seq (LP.q validatorsL) (LQ.seq (LP.q (a4L (a6L (LP.one intP)))) (LQ.k (LQ.c (.own 2)) (LQ.v intP (LQ.k (LQ.c (.own 3)) (LQ.seq (LP.q linksL) (LQ.seq (LP.q meterL) (LQ.v zac (LQ.seq (LP.q providerL) (LQ.v zbx (Par.q zf))))))))))))))))) (fun x=>(x.1,(⟨x.2.1,x.2.2.1,(⟨x.2.2.2.1,(d4 x).1,(d4 x).2.1,(d8 x).2.2.2.1,(d4 x).2.2.1⟩:Stake),(d12 x),(d4 x).2.2.2.1,(d8 x).1,(d8 x).2.1⟩:za),(d8 x).2.2.1)) (fun y=>(y.1,y.2.1.Height,y.2.1.Time,y.2.1.Stake.Bank,y.2.1.Stake.Validators,y.2.1.Stake.Shares,y.2.1.Stake.Next,y.2.1.Links,y.2.1.Meter,y.2.1.Queue,y.2.2,y.2.1.Stake.Waits,y.2.1.Set)) (fun _=>rfl)) ⟨[1,2,16],[.nilcell 1 63 127 (.waits []),.nilcell 1 65 154 (.powers [])]⟩ [.cells 63 97,.cells 63 97,.rows 127,.rows 154]
def zayk:=EndD.mk (LQ.map (LQ.kp 0 0 (LQ.kp 1 0 (LQ.v intP (LQ.v intP (LQ.seq (LP.q bankL) (LQ.seq (LP.q validatorsL) (LQ.seq (LP.q (a4L (a6L (LP.one intP)))) (LQ.k (LQ.c (.own 2)) (LQ.v intP (LQ.k (LQ.c (.own 3)) (LQ.seq (LP.q linksL) (LQ.seq (LP.q meterL) (LQ.v zac (LQ.seq (LP.q providerL) (LQ.v zbx (Par.q zf)))))))))))))))) (fun x=>((⟨x.1,x.2.1,(⟨x.2.2.1,x.2.2.2.1,(d4 x).1,(d8 x).2.2.1,(d4 x).2.1⟩:Stake),(d8 x).2.2.2,(d4 x).2.2.1,(d4 x).2.2.2.1,(d8 x).1⟩:za),(d8 x).2.1)) (fun y=>(y.1.Height,y.1.Time,y.1.Stake.Bank,y.1.Stake.Validators,y.1.Stake.Shares,y.1.Stake.Next,y.1.Links,y.1.Meter,y.1.Queue,y.2,y.1.Stake.Waits,y.1.Set)) (fun _=>rfl)) ⟨[1,2],[.nilcell 1 63 127 (.waits []),.nilcell 1 65 154 (.powers [])]⟩ [.cells 63 97,.cells 63 97,.rows 127,.rows 154]
def za25:St→Option LR:=L1 67 10 0 zbeu (.exit 0) zayk (u3 zbv)
def zs153a:=sub (fb Tryz.f53) [0,1,0,1,1,1]
theorem zbev:zk (za60).env 0 zs153a za25 :=
 zb5 (A:=zbet) za61 fM trivial (k:=z8 zs153a) (by kernel_rfl) rfl (by rintro ⟨x0,x1,x2⟩;kernel_rfl)
def ze4 (x0:(List Asked)) (x1 x2:Int) (x3 x4:za) (x5:(List Asked)): Tr (((List Asked)×Int×Int×za×za×(List Asked))⊕(za×za×(List Asked))) :=
 (.ite (decide (x2 < x1))
  (.guard ((0:Int)≤x2∧x2 < ((Sl.len (.asked x0):Nat):Int))
  (.guard ((zbd ((x0.getD x2.toNat default).P)).isSome=true)
  (.guard ((Sl.len (.asked x5)+Sl.len (.asked [(⟨(x0.getD x2.toNat default).C,((zbd ((x0.getD x2.toNat default).P)).getD default)⟩:Asked)]))*88≤140737488355328)
  (.leaf (.inl (x0,x1,i64.wrap (x2+1),x3,x4,x5++[(⟨(x0.getD x2.toNat default).C,((zbd ((x0.getD x2.toNat default).P)).getD default)⟩:Asked)]))))))
  (.leaf (.inr (x3,x4,x5))))
def znh (x0:(List Asked)) (x1 x2:Int) (x3 x4:za) (x5:(List Asked)):=zbl (fun s:(List Asked)×Int×Int×za×za×(List Asked)=>(ze4 s.1 s.2.1 s.2.2.1 s.2.2.2.1 s.2.2.2.2.1 s.2.2.2.2.2).run) (x0,x1,x2,x3,x4,x5)
def zbew:Ann:=⟨[],[],[],za6z,[]⟩
def zbex:=EndD.mk (LQ.map (LQ.kp 0 0 (LQ.kp 1 0 (LQ.k (LQ.c (.own 2)) (LQ.v zac (LQ.v intP (LQ.v intP (LQ.v intP (LQ.v intP (LQ.seq (LP.q bankL) (LQ.seq (LP.q validatorsL) (LQ.seq (LP.q (a4L (a6L (LP.one intP)))) (LQ.k (LQ.c (.own 3)) (LQ.v intP (LQ.k (LQ.c (.own 4)) (LQ.seq (LP.q linksL) (LQ.seq (LP.q meterL) (LQ.v zac (LQ.seq (LP.q providerL) (LQ.v zac (LQ.v zbx (Par.q zf))))))))))))))))))))) (fun x=>(x.1,x.2.1,x.2.2.1,(⟨x.2.2.2.1,(d4 x).1,(⟨(d4 x).2.1,(d4 x).2.2.1,(d4 x).2.2.2.1,(d12 x).2.2.1,(d8 x).1⟩:Stake),(d12 x).2.2.2,(d8 x).2.1,(d8 x).2.2.1,(d8 x).2.2.2.1⟩:za),(d12 x).1,(d12 x).2.1)) (fun y=>(y.1,y.2.1,y.2.2.1,y.2.2.2.1.Height,y.2.2.2.1.Time,y.2.2.2.1.Stake.Bank,y.2.2.2.1.Stake.Validators,y.2.2.2.1.Stake.Shares,y.2.2.2.1.Stake.Next,y.2.2.2.1.Links,y.2.2.2.1.Meter,y.2.2.2.1.Queue,(d4 y).1,(d4 y).2,y.2.2.2.1.Stake.Waits,y.2.2.2.1.Set)) (fun _=>rfl)) ⟨[1,2,5,48,49,50],[.nilcell 1 63 127 (.waits []),.nilcell 1 65 154 (.powers []),.nilown 5 112 (.asked []),.pub 48,.nilsl 48 (.asked [])]⟩ [.cells 63 97,.cells 63 97,.rows 112,.rows 127,.rows 154]
def zayl:=EndD.mk (LQ.map (LQ.kp 0 0 (LQ.kp 1 0 (LQ.k (LQ.c (.own 2)) (LQ.v intP (LQ.v intP (LQ.seq (LP.q bankL) (LQ.seq (LP.q validatorsL) (LQ.seq (LP.q (a4L (a6L (LP.one intP)))) (LQ.k (LQ.c (.own 3)) (LQ.v intP (LQ.k (LQ.c (.own 4)) (LQ.seq (LP.q linksL) (LQ.seq (LP.q meterL) (LQ.v zac (LQ.seq (LP.q providerL) (LQ.v zac (LQ.v zbx (Par.q zf)))))))))))))))))) (fun x=>((⟨x.1,x.2.1,(⟨x.2.2.1,x.2.2.2.1,(d4 x).1,(d8 x).2.2.2.1,(d4 x).2.1⟩:Stake),(d12 x),(d4 x).2.2.1,(d4 x).2.2.2.1,(d8 x).1⟩:za),(d8 x).2.1,(d8 x).2.2.1)) (fun y=>(y.1.Height,y.1.Time,y.1.Stake.Bank,y.1.Stake.Validators,y.1.Stake.Shares,y.1.Stake.Next,y.1.Links,y.1.Meter,y.1.Queue,y.2.1,y.2.2,y.1.Stake.Waits,y.1.Set)) (fun _=>rfl)) ⟨[1,2,5],[.nilcell 1 63 127 (.waits []),.nilcell 1 65 154 (.powers []),.nilown 5 112 (.asked [])]⟩ [.cells 63 97,.cells 63 97,.rows 112,.rows 127,.rows 154]
def za26:St→Option LR:=L1 67 10 0 zbex (.exit 2) zayl (u6 ze4)
def zs153b:=sub (fb Tryz.f53) [0,1,0,1,1,1,1,1]
theorem zbey:zk (za60).env 0 zs153b za26 :=
 zb5 (A:=zbew) za61 fM trivial (k:=z8 zs153b) (by kernel_rfl) rfl (by rintro ⟨x0,x1,x2,x3,x4,x5⟩;kernel_rfl)
def zlp (a0:za): Tr (za) :=
 (.bind (zc4 a0.Stake) fun v1 =>
 (.guard ((0+Sl.len (.powers a0.Set))*16≤140737488355328)
 (.bind (zhh 0 ({ a0 with Stake:=v1 }) (default:za)) fun v2 =>
 (.bind (znh v2.1.Queue ((v2.1.Queue.length:Nat):Int) 0 v2.1 v2.2 []) fun v3 =>
 (.leaf ({ v3.1 with Queue:=v3.2.2 }))))))
def za5 (a0:za):=(zlp a0).run
def zbz:SpecT:=zn 0 (Par.q (Par.ofLP providerL)) 1 [] zlp default (LQ.map (LQ.seq (LQ.agg (LQ.v intP (LQ.v intP (LQ.seq (LP.q bankL) (LQ.seq (LP.q validatorsL) (LQ.seq (LP.q (a4L (a6L (LP.one intP)))) (LQ.k (LQ.c (.own 0)) (LQ.v intP (LQ.k (LQ.c (.own 1)) (LQ.seq (LP.q linksL) (LQ.skipR (LP.q meterL) (LQ.c (.own 2))))))))))))) (LQ.v zbx (LQ.v zf (Par.q zac)))) (fun x=>(⟨x.1.1,x.1.2.1,(⟨x.1.2.2.1,x.1.2.2.2.1,x.1.2.2.2.2.1,x.2.1,x.1.2.2.2.2.2.1⟩:Stake),x.2.2.1,x.1.2.2.2.2.2.2.1,x.1.2.2.2.2.2.2.2,x.2.2.2⟩:za)) (fun y=>((y.Height,y.Time,y.Stake.Bank,y.Stake.Validators,y.Stake.Shares,y.Stake.Next,y.Links,y.Meter),y.Stake.Waits,y.Set,y.Queue)) (fun _=>rfl)) 1 [.rows 127,.rows 154,.rows 112]
theorem zcp:ze Tryz.prog 53 (zbz).spec :=
 sK (A:=⟨[([0,1,0,1,1,1],za25),([0,1,0,1,1,1,1,1],za26)],[],[],za6z,[]⟩) za61 fM Tryz.func53 (c:=(fb Tryz.f53)) (by kernel_rfl) (Lc:=0) ⟨zbev,zbey,trivial⟩ _ _ 10 _ _ _ _ _ _ [] (by rintro a0;kernel_rfl)
def za62:List (List Nat):=[[2,3],[2,3,52],[4],[2,3,53],[2,3,53,54],[2,3,5,53],[2,3,6,7,53],[2,3,53,120],[4],[2,3,53],[2,3,124,125],[2,3,124,125,126],[2,3,8,124,125],[2,3,124,125,156],[4],[2,3,124,125],[4]]
noncomputable def za63:EnvT:=⟨Tryz.prog,zw [(39,z2k),(40,zmi),(41,zky),(42,zw3),(43,zrw)]⟩
theorem za64:(za63).Ok:=zd ⟨zaa8,zpk,znz,z10,zx8,trivial⟩
def zcq (x0:Int) (x1 x2:za): Tr ((Int×za×za)⊕((Bool)⊕(za×za))) :=
 (.ite (decide (x0 < 2))
  (.guard ((0:Int)≤x0∧(x0:Int) < 2)
  (.guard ((0:Int)≤x0∧(x0:Int) < 2)
  (.guard (((((((!((x1.Links.On.get x0)==(x2.Links.On.get x0)))||(!((x1.Links.Gone.get x0)==(x2.Links.Gone.get x0))))||((x1.Links.Base.get x0) != (x2.Links.Base.get x0)))||(!((x1.Links.Fresh.get x0)==(x2.Links.Fresh.get x0))))||(!(z7b (⟨x1.Links.SHeight.get x0,x1.Links.STime.get x0,x1.Links.SSaid.get x0,x1.Links.SGot.get x0⟩:Head) (⟨x2.Links.SHeight.get x0,x2.Links.STime.get x0,x2.Links.SSaid.get x0,x2.Links.SGot.get x0⟩:Head))))=false→((z5 (x1.Links.Told.get x0) (x2.Links.Told.get x0)).isSome=true)∧True))
  (.guard ((((((((!((x1.Links.On.get x0)==(x2.Links.On.get x0)))||(!((x1.Links.Gone.get x0)==(x2.Links.Gone.get x0))))||((x1.Links.Base.get x0) != (x2.Links.Base.get x0)))||(!((x1.Links.Fresh.get x0)==(x2.Links.Fresh.get x0))))||(!(z7b (⟨x1.Links.SHeight.get x0,x1.Links.STime.get x0,x1.Links.SSaid.get x0,x1.Links.SGot.get x0⟩:Head) (⟨x2.Links.SHeight.get x0,x2.Links.STime.get x0,x2.Links.SSaid.get x0,x2.Links.SGot.get x0⟩:Head))))||(!((z5 (x1.Links.Told.get x0) (x2.Links.Told.get x0)).getD default)))=false→((zb1 (x1.Links.Done.get x0) (x2.Links.Done.get x0)).isSome=true)∧True))
  (.guard (((((((((!((x1.Links.On.get x0)==(x2.Links.On.get x0)))||(!((x1.Links.Gone.get x0)==(x2.Links.Gone.get x0))))||((x1.Links.Base.get x0) != (x2.Links.Base.get x0)))||(!((x1.Links.Fresh.get x0)==(x2.Links.Fresh.get x0))))||(!(z7b (⟨x1.Links.SHeight.get x0,x1.Links.STime.get x0,x1.Links.SSaid.get x0,x1.Links.SGot.get x0⟩:Head) (⟨x2.Links.SHeight.get x0,x2.Links.STime.get x0,x2.Links.SSaid.get x0,x2.Links.SGot.get x0⟩:Head))))||(!((z5 (x1.Links.Told.get x0) (x2.Links.Told.get x0)).getD default)))||(!((zb1 (x1.Links.Done.get x0) (x2.Links.Done.get x0)).getD default)))=false→((zg2 (⟨x1.Links.Said.get x0,x1.Links.Due.get x0,x1.Links.Got.get x0,x1.Links.Closed.get x0⟩:zbs) (⟨x2.Links.Said.get x0,x2.Links.Due.get x0,x2.Links.Got.get x0,x2.Links.Closed.get x0⟩:zbs)).isSome=true)∧True))
  (.ite ((((((((!((x1.Links.On.get x0)==(x2.Links.On.get x0)))||(!((x1.Links.Gone.get x0)==(x2.Links.Gone.get x0))))||((x1.Links.Base.get x0) != (x2.Links.Base.get x0)))||(!((x1.Links.Fresh.get x0)==(x2.Links.Fresh.get x0))))||(!(z7b (⟨x1.Links.SHeight.get x0,x1.Links.STime.get x0,x1.Links.SSaid.get x0,x1.Links.SGot.get x0⟩:Head) (⟨x2.Links.SHeight.get x0,x2.Links.STime.get x0,x2.Links.SSaid.get x0,x2.Links.SGot.get x0⟩:Head))))||(!((z5 (x1.Links.Told.get x0) (x2.Links.Told.get x0)).getD default)))||(!((zb1 (x1.Links.Done.get x0) (x2.Links.Done.get x0)).getD default)))||(!((zg2 (⟨x1.Links.Said.get x0,x1.Links.Due.get x0,x1.Links.Got.get x0,x1.Links.Closed.get x0⟩:zbs) (⟨x2.Links.Said.get x0,x2.Links.Due.get x0,x2.Links.Got.get x0,x2.Links.Closed.get x0⟩:zbs)).getD default)))
   (.leaf (.inr (.inl false)))
   (.leaf (.inl (i64.wrap (x0+1),x1,x2)))))))))
  (.leaf (.inr (.inr (x1,x2)))))
def zjf (x0:Int) (x1 x2:za):=zbl (fun s:Int×za×za=>(zcq s.1 s.2.1 s.2.2).run) (x0,x1,x2)
def zbez:Ann:=⟨[],[],[],za62,[]⟩
def zbe0:=EndD.mk (LQ.kp 0 0 (LQ.kp 1 0 (LQ.v intP (LQ.seq (LP.q providerL) (LP.q providerL))))) ⟨[2,3,53],[]⟩ [.cells 63 97,.cells 63 97]
def zaym:=EndD.mk (Par.q boolP) ⟨[4],[]⟩ []
def zayn:=EndD.mk (LQ.kp 0 0 (LQ.kp 1 0 (LQ.seq (LP.q providerL) (LP.q providerL)))) ⟨[2,3],[]⟩ [.cells 63 97,.cells 63 97]
def za27:St→Option LR:=L2 158 6 0 zbe0 .ret zaym (.exit 0) zayn (u3 zcq)
def zs154a:=sub (fb Tryz.f11) [0,1,0,1,1]
theorem zbe1:zk (za63).env 0 zs154a za27 :=
 zgs (A:=zbez) za64 fM trivial (k:=z8 zs154a) (by kernel_rfl) rfl rfl (by rintro ⟨x0,x1,x2⟩;kernel_rfl)
def zed (x0 x1:Int) (x2 x3:za): Tr ((Int×Int×za×za)⊕((Bool)⊕(Unit))) :=
 (.ite (decide (x1 < x0))
  (.guard ((0:Int)≤x1∧x1 < ((Sl.len (.asked x2.Queue):Nat):Int))
  (.guard ((0:Int)≤x1∧x1 < ((Sl.len (.asked x3.Queue):Nat):Int))
  (.guard (((((x2.Queue.getD x1.toNat default).C) != ((x3.Queue.getD x1.toNat default).C))=false→((0:Int)≤x1∧x1 < ((Sl.len (.asked x2.Queue):Nat):Int))∧True))
  (.guard (((((x2.Queue.getD x1.toNat default).C) != ((x3.Queue.getD x1.toNat default).C))=false→((0:Int)≤x1∧x1 < ((Sl.len (.asked x3.Queue):Nat):Int))∧True))
  (.guard (((((x2.Queue.getD x1.toNat default).C) != ((x3.Queue.getD x1.toNat default).C))=false→((zfb ((x2.Queue.getD x1.toNat default).P) ((x3.Queue.getD x1.toNat default).P)).isSome=true)∧True))
  (.ite ((((x2.Queue.getD x1.toNat default).C) != ((x3.Queue.getD x1.toNat default).C))||(!((zfb ((x2.Queue.getD x1.toNat default).P) ((x3.Queue.getD x1.toNat default).P)).getD default)))
   (.leaf (.inr (.inl false)))
   (.leaf (.inl (x0,i64.wrap (x1+1),x2,x3)))))))))
  (.leaf (.inr (.inr ()))))
def zjg (x0 x1:Int) (x2 x3:za):=zbl (fun s:Int×Int×za×za=>(zed s.1 s.2.1 s.2.2.1 s.2.2.2).run) (x0,x1,x2,x3)
def zbe2:Ann:=⟨[],[],[],za62,[]⟩
def zbe3:=EndD.mk (LQ.kp 0 0 (LQ.kp 1 0 (LQ.v intP (LQ.v intP (LQ.seq (LP.q providerL) (LP.q providerL)))))) ⟨[2,3,124,125],[]⟩ [.cells 63 97,.cells 63 97]
def zayo:=EndD.mk (Par.q boolP) ⟨[4],[]⟩ []
def zayp:EndD (Unit):=⟨LQ.nil,⟨[],[]⟩,[]⟩
def za28:St→Option LR:=L2 158 6 0 zbe3 .ret zayo (.exit 2) zayp (u4 zed)
def zs154b:=sub (fb Tryz.f11) [0,1,0,1,1,1]
theorem zbe4:zk (za63).env 0 zs154b za28 :=
 zgs (A:=zbe2) za64 fM trivial (k:=z8 zs154b) (by kernel_rfl) rfl rfl (by rintro ⟨x0,x1,x2,x3⟩;kernel_rfl)
def zoq (a0 a1:za): Tr (Bool) :=
 (.guard ((((a0.Height != a1.Height)||(a0.Time != a1.Time))=false→((ziv a0.Stake a1.Stake).isSome=true)∧True))
 (.guard (((((a0.Height != a1.Height)||(a0.Time != a1.Time))||(!((ziv a0.Stake a1.Stake).getD default)))=false→((z5 a0.Set a1.Set).isSome=true)∧True))
 (.ite ((((((a0.Height != a1.Height)||(a0.Time != a1.Time))||(!((ziv a0.Stake a1.Stake).getD default)))||(!((z5 a0.Set a1.Set).getD default)))||(!((a0.Meter.Left==a1.Meter.Left)&&((a0.Meter.Next==a1.Meter.Next)&&true))))||(((a0.Queue.length:Nat):Int) != ((a1.Queue.length:Nat):Int)))
  (.leaf false)
  (.two (zjf 0 a0 a1) (fun v1 =>
   (.leaf v1)) (fun v2 =>
   (.two (zjg ((v2.1.Queue.length:Nat):Int) 0 v2.1 v2.2) (fun v3 =>
    (.leaf v3)) (fun v4 =>
    (.leaf true))))))))
def zfm (a0 a1:za):=(zoq a0 a1).run
def zwf:SpecT:=zn 0 (LQ.v (Par.ofLP providerL) (Par.q (Par.ofLP providerL))) 2 [] (u2 zoq) default (Par.q boolP) 1 []
theorem z59:ze Tryz.prog 11 (zwf).spec :=
 sK (A:=⟨[([0,1,0,1,1],za27),([0,1,0,1,1,1],za28)],[],[],za62,[]⟩) za64 fM Tryz.func11 (c:=(fb Tryz.f11)) (by kernel_rfl) (Lc:=0) ⟨zbe1,zbe4,trivial⟩ _ _ 6 _ _ _ _ _ _ [] (by rintro ⟨a0,a1⟩;kernel_rfl)
def zayq:List (List Nat):=[[1],[1,39],[2],[1,41,42],[1,41,42,43],[1,4,41,42],[1,4,5,41,42],[1,4,5,41,42,46,47,48],[1,4,5,41,42,46,47,48,49],[1,4,5,7,41,42,46,47,48],[1,4,7,41,42,46,47,48,58],[2],[1,4,5,41,42,46,47,48],[1,4,5,41,42,46,47,48],[1,41,42,90],[2],[1,41,42],[1,93,94,95],[1,93,94,95,96],[1,9,93,94,95],[1,93,94,95,127],[2],[1,93,94,95],[2]]
noncomputable def zayr:EnvT:=⟨Tryz.prog,zw [(96,zoi),(97,z55),(75,zi1),(98,zik)]⟩
theorem zays:(zayr).Ok:=zd ⟨zr8,zaal,zj6,zk4,trivial⟩
def zge (x0:Int) (x1:Links) (x2:Int) (x3:(List Int)) (x4 x5:Int) (x6:za) (x7:Link): Tr ((Int×Links×Int×(List Int)×Int×Int×za×Link)⊕((Bool)⊕(Links×Int×za×Link))) :=
 (.ite (decide (x5 < x4))
  (.guard ((0:Int)≤x5∧x5 < ((Sl.len (.ints x3):Nat):Int))
  (.ite ((decide ((x3.getD x5.toNat 0)≤x0))||(decide ((x3.getD x5.toNat 0) > 5)))
   (.leaf (.inr (.inl false)))
   (.leaf (.inl (x3.getD x5.toNat 0,x1,x2,x3,x4,i64.wrap (x5+1),x6,x7)))))
  (.leaf (.inr (.inr (x1,x2,x6,x7)))))
def zo4 (x0:Int) (x1:Links) (x2:Int) (x3:(List Int)) (x4 x5:Int) (x6:za) (x7:Link):=zbl (fun s:Int×Links×Int×(List Int)×Int×Int×za×Link=>(zge s.1 s.2.1 s.2.2.1 s.2.2.2.1 s.2.2.2.2.1 s.2.2.2.2.2.1 s.2.2.2.2.2.2.1 s.2.2.2.2.2.2.2).run) (x0,x1,x2,x3,x4,x5,x6,x7)
def zbe5:Ann:=⟨[],[],[],zayq,[]⟩
def zbe6:=EndD.mk (LQ.kp 0 0 (LQ.kp 1 0 (LQ.v intP (LQ.v (Par.ofLP linksL) (LQ.v intP (LQ.v za7 (LQ.v intP (LQ.v intP (LQ.seq (LP.q providerL) (LP.q zawq)))))))))) ⟨[1,4,5,41,42,46,47,48],[.pub 46,.nilsl 46 (.ints [])]⟩ [.cells 63 97,.cells 57 14]
def zayt:=EndD.mk (Par.q boolP) ⟨[2],[]⟩ []
def zayu:=EndD.mk (LQ.kp 0 0 (LQ.kp 1 0 (LQ.v (Par.ofLP linksL) (LQ.v intP (LQ.seq (LP.q providerL) (LP.q zawq)))))) ⟨[1,4,41,42],[]⟩ [.cells 63 97,.cells 57 14]
def za29:St→Option LR:=L2 129 4 0 zbe6 .ret zayt (.exit 2) zayu (u8 zge)
def zs155a:=sub (fb Tryz.f51) [0,1,0,1,1,0,0,1,1,0,0,1,0,1,1]
theorem zbe7:zk (zayr).env 0 zs155a za29 :=
 zgs (A:=zbe5) zays fM trivial (k:=z8 zs155a) (by kernel_rfl) rfl rfl (by rintro ⟨x0,x1,x2,x3,x4,x5,x6,x7⟩;kernel_rfl)
def zcr (x0:Links) (x1:Int) (x2:za): Tr ((Links×Int×za)⊕((Bool)⊕(za))) :=
 (.ite (decide (x1 < 2))
  (.guard ((0:Int)≤x1∧(x1:Int) < 2)
  (.two (zo4 (-1) x0 x1 (x0.Done.get x1) (((x0.Done.get x1).length:Nat):Int) 0 x2 (⟨x0.On.get x1,x0.Gone.get x1,x0.Base.get x1,x0.Told.get x1,x0.Fresh.get x1,x0.Done.get x1,(⟨x0.Said.get x1,x0.Due.get x1,x0.Got.get x1,x0.Closed.get x1⟩:zbs),(⟨x0.SHeight.get x1,x0.STime.get x1,x0.SSaid.get x1,x0.SGot.get x1⟩:Head)⟩:Link)) (fun v2 =>
   (.leaf (.inr (.inl v2)))) (fun v3 =>
   (.guard (((((v3.2.2.2.On&&v3.2.2.2.Gone)||(decide (v3.2.2.2.Base < 0)))||(decide (v3.2.2.2.Base > v3.2.2.1.Height)))=false→((zd9 v3.2.2.2.Told).isSome=true)∧True))
   (.guard ((((((v3.2.2.2.On&&v3.2.2.2.Gone)||(decide (v3.2.2.2.Base < 0)))||(decide (v3.2.2.2.Base > v3.2.2.1.Height)))||(!((zd9 v3.2.2.2.Told).getD default)))=false→((zb8 v3.2.2.2.Out).isSome=true)∧True))
   (.ite (((((v3.2.2.2.On&&v3.2.2.2.Gone)||(decide (v3.2.2.2.Base < 0)))||(decide (v3.2.2.2.Base > v3.2.2.1.Height)))||(!((zd9 v3.2.2.2.Told).getD default)))||(!((zb8 v3.2.2.2.Out).getD default)))
    (.leaf (.inr (.inl false)))
    (.leaf (.inl (v3.1,i64.wrap (v3.2.1+1),v3.2.2.1)))))))))
  (.leaf (.inr (.inr x2))))
def zjh (x0:Links) (x1:Int) (x2:za):=zbl (fun s:Links×Int×za=>(zcr s.1 s.2.1 s.2.2).run) (x0,x1,x2)
def zbe8:Ann:=⟨[([0,1,0,1,1,0,0,1,1,0,0,1,0,1,1],za29)],[],[],zayq,[]⟩
def zbe9:=EndD.mk (LQ.kp 0 0 (LQ.v (Par.ofLP linksL) (LQ.v intP (LP.q providerL)))) ⟨[1,41,42],[]⟩ [.cells 63 97]
def zayv:=EndD.mk (Par.q boolP) ⟨[2],[]⟩ []
def zayw:=EndD.mk (LQ.kp 0 0 (LP.q providerL)) ⟨[1],[]⟩ [.cells 63 97]
def za3a:St→Option LR:=L2 129 4 0 zbe9 .ret zayv (.exit 0) zayw (u3 zcr)
def zs155b:=sub (fb Tryz.f51) [0,1,0,1,1]
theorem zbfa:zk (zayr).env 0 zs155b za3a :=
 zgs (A:=zbe8) zays fM ⟨zbe7,trivial⟩ (k:=z8 zs155b) (by kernel_rfl) rfl rfl (by rintro ⟨x0,x1,x2⟩;kernel_rfl)
def zcs (x0:(List Asked)) (x1 x2:Int) (x3:za): Tr (((List Asked)×Int×Int×za)⊕((Bool)⊕(Unit))) :=
 (.ite (decide (x2 < x1))
  (.guard ((0:Int)≤x2∧x2 < ((Sl.len (.asked x0):Nat):Int))
  (.guard ((((decide (((x0.getD x2.toNat default).C) < 0))||(decide (((x0.getD x2.toNat default).C) > 1)))=false→((0:Int)≤((x0.getD x2.toNat default).C)∧(((x0.getD x2.toNat default).C):Int) < 2)∧True))
  (.guard ((((((decide (((x0.getD x2.toNat default).C) < 0))||(decide (((x0.getD x2.toNat default).C) > 1)))||(!(x3.Links.On.get ((x0.getD x2.toNat default).C))))||((((x0.getD x2.toNat default).P).Kind)==1))=false→((za2 ((x0.getD x2.toNat default).P)).isSome=true)∧True))
  (.ite (((((decide (((x0.getD x2.toNat default).C) < 0))||(decide (((x0.getD x2.toNat default).C) > 1)))||(!(x3.Links.On.get ((x0.getD x2.toNat default).C))))||((((x0.getD x2.toNat default).P).Kind)==1))||(((za2 ((x0.getD x2.toNat default).P)).getD default) != 0))
   (.leaf (.inr (.inl false)))
   (.leaf (.inl (x0,x1,i64.wrap (x2+1),x3)))))))
  (.leaf (.inr (.inr ()))))
def zji (x0:(List Asked)) (x1 x2:Int) (x3:za):=zbl (fun s:(List Asked)×Int×Int×za=>(zcs s.1 s.2.1 s.2.2.1 s.2.2.2).run) (x0,x1,x2,x3)
def zbfb:Ann:=⟨[],[],[],zayq,[]⟩
def zbfc:=EndD.mk (LQ.kp 0 0 (LQ.v zac (LQ.v intP (LQ.v intP (LP.q providerL))))) ⟨[1,93,94,95],[.pub 93,.nilsl 93 (.asked [])]⟩ [.cells 63 97]
def zayx:=EndD.mk (Par.q boolP) ⟨[2],[]⟩ []
def zayy:EndD (Unit):=⟨LQ.nil,⟨[],[]⟩,[]⟩
def za3b:St→Option LR:=L2 129 4 0 zbfc .ret zayx (.exit 4) zayy (u4 zcs)
def zs155c:=sub (fb Tryz.f51) [0,1,0,1,1,1]
theorem zbfd:zk (zayr).env 0 zs155c za3b :=
 zgs (A:=zbfb) zays fM trivial (k:=z8 zs155c) (by kernel_rfl) rfl rfl (by rintro ⟨x0,x1,x2,x3⟩;kernel_rfl)
def zor (a0:za): Tr (Bool) :=
 (.bind (ziw a0.Stake) fun v1 =>
 (.guard (((((((!v1)||(decide (a0.Height < 0)))||(decide (a0.Height > 1099511627775)))||(decide (a0.Time < 0)))||(decide (a0.Time > 1099511627776)))=false→((zd9 a0.Set).isSome=true)∧True))
 (.ite ((((((!v1)||(decide (a0.Height < 0)))||(decide (a0.Height > 1099511627775)))||(decide (a0.Time < 0)))||(decide (a0.Time > 1099511627776)))||(!((zd9 a0.Set).getD default)))
  (.leaf false)
  (.two (zjh a0.Links 0 a0) (fun v4 =>
   (.leaf v4)) (fun v5 =>
   (.two (zji v5.Queue ((v5.Queue.length:Nat):Int) 0 v5) (fun v6 =>
    (.leaf v6)) (fun v7 =>
    (.leaf true))))))))
def zak (a0:za):=(zor a0).run
def zb3:SpecT:=zn 0 (Par.q (Par.ofLP providerL)) 1 [] zor default (Par.q boolP) 1 []
theorem zck:ze Tryz.prog 51 (zb3).spec :=
 sK (A:=⟨[([0,1,0,1,1],za3a),([0,1,0,1,1,1],za3b)],[],[],zayq,[]⟩) zays fM Tryz.func51 (c:=(fb Tryz.f51)) (by kernel_rfl) (Lc:=0) ⟨zbfa,zbfd,trivial⟩ _ _ 4 _ _ _ _ _ _ [] (by rintro a0;kernel_rfl)
noncomputable def zbog:EnvT:=⟨Tryz.prog,zw [(49,z4p),(50,zwy)]⟩
theorem zboh:(zbog).Ok:=zd ⟨zadg,z1x,trivial⟩
def zp2  : Tr (za) :=
 (.bind (zur) fun v1 =>
 (.bind (znv 0 0) fun v2 =>
 (.leaf (⟨0,0,v1,[],(default:Links),v2,[]⟩:za))))
def zos  := (zp2 ).run
def zyh:SpecT:=zn 0 LQ.nil 0 [] (fun s=>zp2 ) default (Par.q (Par.ofLP providerL)) 1 []
theorem z74:ze Tryz.prog 17 (zyh).spec :=
 sK (A:=⟨[],[],[],[[0],[0]],[]⟩) zboh fM Tryz.func17 (c:=(fb Tryz.f17)) (by kernel_rfl) (Lc:=0) trivial _ _ 3 _ _ _ _ _ _ [.pubB 0] (by rintro _;kernel_rfl)
noncomputable def zboi:EnvT:=⟨Tryz.prog,zw [(51,zb3),(52,z4q),(53,zwe)]⟩
theorem zboj:(zboi).Ok:=zd ⟨zck,zadh,z58,trivial⟩
def zjj (a0:za) (a1 a2 a3:Int): Tr (za×Int) :=
 (.bind (zak a0) fun v1 =>
 (.ite (!v1)
  (.leaf (a0,2))
  (.bind (zuv a0.Stake a1 a2 a3) fun v2 =>
  (.ite (v2.2 != 0)
   (.leaf (a0,v2.2))
   (.bind (zm7 a0) fun v3 =>
   (.leaf ({ v3 with Stake:=v2.1 },0)))))))
def zbw (a0:za) (a1 a2 a3:Int):=(zjj a0 a1 a2 a3).run
def zo5:SpecT:=zn 0 (LQ.v (Par.ofLP providerL) (LQ.v intP (LQ.v intP (Par.q intP)))) 4 [] (u4 zjj) default (LQ.v (Par.ofLP providerL) (Par.q intP)) 2 []
theorem zz9:ze Tryz.prog 19 (zo5).spec :=
 sK (A:=⟨[],[],[],[[1,2,3,4,8],[1,2,3,4,8,14],[8,9],[4,8,10,11],[4,8,10,11,26],[8,9],[4,8,10],[4,8],[8,9]],[]⟩) zboj fM Tryz.func19 (c:=(fb Tryz.f19)) (by kernel_rfl) (Lc:=0) trivial _ _ 5 _ _ _ _ _ _ [.pubB 8] (by rintro ⟨a0,a1,a2,a3⟩;kernel_rfl)
def zbfe:List (List Nat):=[[1,2,3,4,5,10],[1,2,3,4,5,10,27],[10,11],[1,2,3,4,5,10,12],[1,2,3,5,10,12,13],[1,2,3,5,10,12,13,37],[1,2,3,5,10,12,13,37,38],[1,2,3,5,10,12,13,14,37],[1,2,3,5,10,12,13,14,37,44],[1,2,3,5,10,12,13,14,37],[1,2,3,5,10,12,13,37],[1,2,3,5,10,12,13,37],[5,10,12,15,16],[5,10,12,15,16,67],[10,11],[10,12],[10,11]]
noncomputable def zbff:EnvT:=⟨Tryz.prog,zw [(51,zb3),(53,zbz),(54,z0w)]⟩
theorem zbfg:(zbff).Ok:=zd ⟨zck,zcp,z9j,trivial⟩
def za4 (x0 x1 x2 x3:Int) (x4 x5 x6:za) (x7:Wait): Tr ((Int×Int×Int×Int×za×za×za×Wait)⊕(Int×Int×Int×za×za×za×Wait)) :=
 (.ite (decide (x3 < 2))
  (.guard ((0:Int)≤x3∧(x3:Int) < 2)
  (.ite (x6.Links.On.get x3)
   (.guard ((0:Int)≤x3∧(x3:Int) < 2)
   (.guard ((0:Int)≤x3∧(x3:Int) < 2)
   (.leaf (.inl (x0,x1,x2,i64.wrap (x3+1),x4,x5,{ x6 with Links:={ x6.Links with Fresh:=(x6.Links.Fresh.set x3 true) } },{ (x7:Wait) with h0:=if x3=0 then i64.wrap (x4.Height+1) else x7.h0,h1:=if x3=1 then i64.wrap (x4.Height+1) else x7.h1 })))))
   (.leaf (.inl (x0,x1,x2,i64.wrap (x3+1),x4,x5,x6,x7)))))
  (.leaf (.inr (x0,x1,x2,x4,x5,x6,x7))))
def ze5 (x0 x1 x2 x3:Int) (x4 x5 x6:za) (x7:Wait):=zbl (fun s:Int×Int×Int×Int×za×za×za×Wait=>(za4 s.1 s.2.1 s.2.2.1 s.2.2.2.1 s.2.2.2.2.1 s.2.2.2.2.2.1 s.2.2.2.2.2.2.1 s.2.2.2.2.2.2.2).run) (x0,x1,x2,x3,x4,x5,x6,x7)
def zbfh:Ann:=⟨[],[],[],zbfe,[]⟩
def zbfi:=EndD.mk (LQ.map (LQ.v intP (LQ.v intP (LQ.v intP (LQ.kp 0 0 (LQ.kp 1 0 (LQ.kp 2 0 (LQ.kp 3 0 (LQ.v intP (LQ.seq (LP.q providerL) (LQ.seq (LP.q providerL) (LQ.v intP (LQ.v intP (LQ.seq (LP.q bankL) (LQ.seq (LP.q validatorsL) (LQ.seq (LP.q (a4L (a6L (LP.one intP)))) (LQ.k (LQ.c (.own 4)) (LQ.v intP (LQ.k (LQ.c (.own 5)) (LQ.seq (LP.q linksL) (LQ.seq (LP.q meterL) (LQ.k (LQ.c (.own 6)) (LQ.seq (LP.q zaqm) (LQ.v zbx (LQ.v zf (Par.q zac))))))))))))))))))))))))) (fun x=>(x.1,x.2.1,x.2.2.1,x.2.2.2.1,(d4 x).1,(d4 x).2.1,(⟨(d4 x).2.2.1,(d4 x).2.2.2.1,(⟨(d8 x).1,(d8 x).2.1,(d8 x).2.2.1,(d12 x).2.2.2.1,(d8 x).2.2.2.1⟩:Stake),(d16 x).1,(d12 x).1,(d12 x).2.1,(d16 x).2⟩:za),(d12 x).2.2.1)) (fun y=>(y.1,y.2.1,y.2.2.1,y.2.2.2.1,(d4 y).1,(d4 y).2.1,(d4 y).2.2.1.Height,(d4 y).2.2.1.Time,(d4 y).2.2.1.Stake.Bank,(d4 y).2.2.1.Stake.Validators,(d4 y).2.2.1.Stake.Shares,(d4 y).2.2.1.Stake.Next,(d4 y).2.2.1.Links,(d4 y).2.2.1.Meter,(d4 y).2.2.2,(d4 y).2.2.1.Stake.Waits,(d4 y).2.2.1.Set,(d4 y).2.2.1.Queue)) (fun _=>rfl)) ⟨[1,2,3,5,10,12,13,37],[.nilcell 12 63 127 (.waits []),.nilcell 12 65 154 (.powers []),.nilcell 12 96 112 (.asked [])]⟩ [.cells 63 97,.cells 63 97,.cells 63 97,.cells 127 8,.rows 127,.rows 154,.rows 112]
def zayz:=EndD.mk (LQ.map (LQ.v intP (LQ.v intP (LQ.v intP (LQ.kp 0 0 (LQ.kp 1 0 (LQ.kp 2 0 (LQ.kp 3 0 (LQ.seq (LP.q providerL) (LQ.seq (LP.q providerL) (LQ.v intP (LQ.v intP (LQ.seq (LP.q bankL) (LQ.seq (LP.q validatorsL) (LQ.seq (LP.q (a4L (a6L (LP.one intP)))) (LQ.k (LQ.c (.own 4)) (LQ.v intP (LQ.k (LQ.c (.own 5)) (LQ.seq (LP.q linksL) (LQ.seq (LP.q meterL) (LQ.k (LQ.c (.own 6)) (LQ.seq (LP.q zaqm) (LQ.v zbx (LQ.v zf (Par.q zac)))))))))))))))))))))))) (fun x=>(x.1,x.2.1,x.2.2.1,x.2.2.2.1,(d4 x).1,(⟨(d4 x).2.1,(d4 x).2.2.1,(⟨(d4 x).2.2.2.1,(d8 x).1,(d8 x).2.1,(d12 x).2.2.1,(d8 x).2.2.1⟩:Stake),(d12 x).2.2.2.1,(d8 x).2.2.2.1,(d12 x).1,(d16 x)⟩:za),(d12 x).2.1)) (fun y=>(y.1,y.2.1,y.2.2.1,y.2.2.2.1,(d4 y).1,(d4 y).2.1.Height,(d4 y).2.1.Time,(d4 y).2.1.Stake.Bank,(d4 y).2.1.Stake.Validators,(d4 y).2.1.Stake.Shares,(d4 y).2.1.Stake.Next,(d4 y).2.1.Links,(d4 y).2.1.Meter,(d4 y).2.2,(d4 y).2.1.Stake.Waits,(d4 y).2.1.Set,(d4 y).2.1.Queue)) (fun _=>rfl)) ⟨[1,2,3,5,10,12,13],[.nilcell 12 63 127 (.waits []),.nilcell 12 65 154 (.powers []),.nilcell 12 96 112 (.asked [])]⟩ [.cells 63 97,.cells 63 97,.cells 63 97,.cells 127 8,.rows 127,.rows 154,.rows 112]
def za3c:St→Option LR:=L1 73 10 0 zbfi (.exit 0) zayz (u8 za4)
def zs158a:=sub (fb Tryz.f20) [0,1,0,1,1,1,1]
theorem zbfj:zk (zbff).env 0 zs158a za3c :=
 zb5 (A:=zbfh) zbfg fM trivial (k:=z8 zs158a) (by kernel_rfl) rfl (by rintro ⟨x0,x1,x2,x3,x4,x5,x6,x7⟩;kernel_rfl)
def zhi (a0:za) (a1 a2 a3 a4:Int): Tr (za×Int) :=
 (.bind (zak a0) fun v1 =>
 (.ite (((!v1)||(decide (a4 < 0)))||(decide (a4 > 1099511627776)))
  (.leaf (a0,2))
  (.bind (za5 a0) fun v2 =>
  (.bind (ze5 a1 a2 a3 0 a0 (default:za) v2 (⟨0,0,0,0,i64.wrap (a0.Height+1),i64.wrap (a4+20),0,0⟩:Wait)) fun v3 =>
  (.bind (zpy v3.2.2.2.1.Stake v3.1 v3.2.1 v3.2.2.1 v3.2.2.2.2.2.2) fun v4 =>
  (.ite (v4.2 != 0)
   (.leaf (v3.2.2.2.1,v4.2))
   (.leaf ({ v3.2.2.2.2.2.1 with Stake:=v4.1 },0))))))))
def zbe (a0:za) (a1 a2 a3 a4:Int):=(zhi a0 a1 a2 a3 a4).run
def zni:SpecT:=zn 0 (LQ.v (Par.ofLP providerL) (LQ.v intP (LQ.v intP (LQ.v intP (Par.q intP))))) 5 [] (u5 zhi) default (LQ.v (Par.ofLP providerL) (Par.q intP)) 2 []
theorem zxm:ze Tryz.prog 20 (zni).spec :=
 sK (A:=⟨[([0,1,0,1,1,1,1],za3c)],[],[],zbfe,[]⟩) zbfg fM Tryz.func20 (c:=(fb Tryz.f20)) (by kernel_rfl) (Lc:=0) ⟨zbfj,trivial⟩ _ _ 10 _ _ _ _ _ _ [.pubB 10] (by rintro ⟨a0,a1,a2,a3,a4⟩;kernel_rfl)
def zbfk:List (List Nat):=[[1,2,4],[1,2,4,11],[4,5],[1,2,4,18],[4,5],[1,2,4,24],[4,5],[1,2,4,30],[4,5],[1,2,4,40],[4,5],[1,2,4,6],[1,2,4,6],[1,2,4,6,55,56,57],[1,2,4,6,55,56,57,58],[1,2,4,6,7,8,55,56,57],[1,2,4,6,7,8,55,56,57,66],[1,2,4,6,55,56,57],[1,2,4,6,55,56,57],[4,5]]
noncomputable def zbfl:EnvT:=⟨Tryz.prog,zw [(51,zb3),(53,zbz)]⟩
theorem zbfm:(zbfl).Ok:=zd ⟨zck,zcp,trivial⟩
def zmd (x0:Int) (x1:(List Wait)) (x2 x3:Int) (x4 x5 x6:za): Tr ((Int×(List Wait)×Int×Int×za×za×za)⊕(za×za)) :=
 (.ite (decide (x3 < x2))
  (.guard ((0:Int)≤x3∧x3 < ((Sl.len (.waits x1):Nat):Int))
  (.ite (decide (((x1.getD x3.toNat default).Height) > x4.Height))
   (.guard ((0:Int)≤x3∧x3 < ((Sl.len (.waits x6.Stake.Waits):Nat):Int))
   (.guard ((0:Int)≤x0∧(x0:Int) < 2)
   (.guard ((0:Int)≤x0∧(x0:Int) < 2)
   (.leaf (.inl (x0,x1,x2,i64.wrap (x3+1),x4,x5,{ x6 with Stake:={ x6.Stake with Waits:=x6.Stake.Waits.set x3.toNat ({ ((x6.Stake.Waits.getD x3.toNat default):Wait) with h0:=if x0=0 then (x1.getD x3.toNat default).Height else (x6.Stake.Waits.getD x3.toNat default).h0,h1:=if x0=1 then (x1.getD x3.toNat default).Height else (x6.Stake.Waits.getD x3.toNat default).h1 }) },Links:={ x6.Links with Fresh:=(x6.Links.Fresh.set x0 true) } }))))))
   (.leaf (.inl (x0,x1,x2,i64.wrap (x3+1),x4,x5,x6)))))
  (.leaf (.inr (x5,x6))))
def zu3 (x0:Int) (x1:(List Wait)) (x2 x3:Int) (x4 x5 x6:za):=zbl (fun s:Int×(List Wait)×Int×Int×za×za×za=>(zmd s.1 s.2.1 s.2.2.1 s.2.2.2.1 s.2.2.2.2.1 s.2.2.2.2.2.1 s.2.2.2.2.2.2).run) (x0,x1,x2,x3,x4,x5,x6)
def zbfn:Ann:=⟨[],[],[],zbfk,[]⟩
def zbfo:=EndD.mk (LQ.map (LQ.v intP (LQ.kp 0 0 (LQ.kp 1 0 (LQ.kp 2 0 (LQ.v zbx (LQ.v intP (LQ.v intP (LQ.seq (LP.q providerL) (LQ.seq (LP.q providerL) (LQ.v intP (LQ.v intP (LQ.seq (LP.q bankL) (LQ.seq (LP.q validatorsL) (LQ.seq (LP.q (a4L (a6L (LP.one intP)))) (LQ.k (LQ.c (.own 3)) (LQ.v intP (LQ.k (LQ.c (.own 4)) (LQ.seq (LP.q linksL) (LQ.seq (LP.q meterL) (LQ.k (LQ.c (.own 5)) (LQ.v zbx (LQ.v zf (Par.q zac))))))))))))))))))))))) (fun x=>(x.1,x.2.1,x.2.2.1,x.2.2.2.1,(d4 x).1,(d4 x).2.1,(⟨(d4 x).2.2.1,(d4 x).2.2.2.1,(⟨(d8 x).1,(d8 x).2.1,(d8 x).2.2.1,(d12 x).2.2.1,(d8 x).2.2.2.1⟩:Stake),(d12 x).2.2.2.1,(d12 x).1,(d12 x).2.1,(d16 x)⟩:za))) (fun y=>(y.1,y.2.1,y.2.2.1,y.2.2.2.1,(d4 y).1,(d4 y).2.1,(d4 y).2.2.Height,(d4 y).2.2.Time,(d4 y).2.2.Stake.Bank,(d4 y).2.2.Stake.Validators,(d4 y).2.2.Stake.Shares,(d4 y).2.2.Stake.Next,(d4 y).2.2.Links,(d4 y).2.2.Meter,(d4 y).2.2.Stake.Waits,(d4 y).2.2.Set,(d4 y).2.2.Queue)) (fun _=>rfl)) ⟨[1,2,4,6,55,56,57],[.nilcell 6 63 127 (.waits []),.nilcell 6 65 154 (.powers []),.nilcell 6 96 112 (.asked []),.pub 55,.nilsl 55 (.waits [])]⟩ [.cells 63 97,.cells 63 97,.cells 63 97,.rows 127,.rows 154,.rows 112]
def zay0:=EndD.mk (LQ.map (LQ.kp 0 0 (LQ.kp 1 0 (LQ.seq (LP.q providerL) (LQ.v intP (LQ.v intP (LQ.seq (LP.q bankL) (LQ.seq (LP.q validatorsL) (LQ.seq (LP.q (a4L (a6L (LP.one intP)))) (LQ.k (LQ.c (.own 2)) (LQ.v intP (LQ.k (LQ.c (.own 3)) (LQ.seq (LP.q linksL) (LQ.seq (LP.q meterL) (LQ.k (LQ.c (.own 4)) (LQ.v zbx (LQ.v zf (Par.q zac))))))))))))))))) (fun x=>(x.1,(⟨x.2.1,x.2.2.1,(⟨x.2.2.2.1,(d4 x).1,(d4 x).2.1,(d8 x).2.1,(d4 x).2.2.1⟩:Stake),(d8 x).2.2.1,(d4 x).2.2.2.1,(d8 x).1,(d8 x).2.2.2⟩:za))) (fun y=>(y.1,y.2.Height,y.2.Time,y.2.Stake.Bank,y.2.Stake.Validators,y.2.Stake.Shares,y.2.Stake.Next,y.2.Links,y.2.Meter,y.2.Stake.Waits,y.2.Set,y.2.Queue)) (fun _=>rfl)) ⟨[4,6],[.nilcell 6 63 127 (.waits []),.nilcell 6 65 154 (.powers []),.nilcell 6 96 112 (.asked [])]⟩ [.cells 63 97,.cells 63 97,.rows 127,.rows 154,.rows 112]
def za3d:St→Option LR:=L1 83 9 0 zbfo (.exit 0) zay0 (u7 zmd)
def zs159a:=sub (fb Tryz.f24) [0,1,0,1,1,1,1,1,1,1,1]
theorem zbfp:zk (zbfl).env 0 zs159a za3d :=
 zb5 (A:=zbfn) zbfm fM trivial (k:=z8 zs159a) (by kernel_rfl) rfl (by rintro ⟨x0,x1,x2,x3,x4,x5,x6⟩;kernel_rfl)
def z6a (a0:za) (a1:Int): Tr (za×Int) :=
 (.bind (zak a0) fun v1 =>
 (.ite (!v1)
  (.leaf (a0,2))
  (.ite ((decide (a1 < 0))||(decide (a1 > 1)))
   (.leaf (a0,4))
   (.guard ((0:Int)≤a1∧(a1:Int) < 2)
   (.ite (a0.Links.Gone.get a1)
    (.leaf (a0,11))
    (.guard ((0:Int)≤a1∧(a1:Int) < 2)
    (.ite (a0.Links.On.get a1)
     (.leaf (a0,5))
     (.ite ((a0.Height==0)||(((a0.Set.length:Nat):Int)==0))
      (.leaf (a0,13))
      (.bind (za5 a0) fun v2 =>
      (.guard ((0+Sl.len (.powers a0.Set))*16≤140737488355328)
      (.guard ((0:Int)≤a1∧(a1:Int) < 2)
      (.bind (zu3 a1 a0.Stake.Waits ((a0.Stake.Waits.length:Nat):Int) 0 a0 (default:za) ({ v2 with Links:=(⟨(v2.Links.On.set a1 true),(v2.Links.Gone.set a1 false),(v2.Links.Base.set a1 a0.Height),(v2.Links.Told.set a1 a0.Set),(v2.Links.Fresh.set a1 false),(v2.Links.Done.set a1 []),(v2.Links.Said.set a1 []),(v2.Links.Due.set a1 []),(v2.Links.Got.set a1 0),(v2.Links.Closed.set a1 false),(v2.Links.SHeight.set a1 0),(v2.Links.STime.set a1 0),(v2.Links.SSaid.set a1 0),(v2.Links.SGot.set a1 0)⟩:Links) })) fun v3 =>
      (.leaf (v3.2,0))))))))))))))
def zdk (a0:za) (a1:Int):=(z6a a0 a1).run
def zadn:SpecT:=zn 0 (LQ.v (Par.ofLP providerL) (Par.q intP)) 2 [] (u2 z6a) default (LQ.v (Par.ofLP providerL) (Par.q intP)) 2 []
theorem zakv:ze Tryz.prog 24 (zadn).spec :=
 sK (A:=⟨[([0,1,0,1,1,1,1,1,1,1,1],za3d)],[],[],zbfk,[]⟩) zbfm fM Tryz.func24 (c:=(fb Tryz.f24)) (by kernel_rfl) (Lc:=0) ⟨zbfp,trivial⟩ _ _ 9 _ _ _ _ _ _ [.pubB 4] (by rintro ⟨a0,a1⟩;kernel_rfl)
def zbfq:List (List Nat):=[[1,2,4],[1,2,4,28],[4],[1,4,5],[1,4,5,6],[1,4,5],[1,4,5],[1,4,5,7],[1,4,5,7,57,58,59],[1,4,5,7,57,58,59,60],[1,4,5,7,9,57,58,59],[1,4,5,7,9,57,58,59,66],[1,4,5,7,57,58,59],[1,4,5,7,57,58,59],[4,5],[4]]
noncomputable def zbfr:EnvT:=⟨Tryz.prog,zw [(51,zb3),(53,zbz),(77,zz2)]⟩
theorem zbfs:(zbfr).Ok:=zd ⟨zck,zcp,z4r,trivial⟩
def zkg (x0 x1 x2:Int) (x3 x4:za) (x5:(List Asked)): Tr ((Int×Int×Int×za×za×(List Asked))⊕(za×za×(List Asked))) :=
 (.ite (decide (x2 < x1))
  (.guard ((0:Int)≤x2∧x2 < ((Sl.len (.asked x4.Queue):Nat):Int))
  (.ite (((x4.Queue.getD x2.toNat default).C) != x0)
   (.guard ((Sl.len (.asked x5)+Sl.len (.asked [(x4.Queue.getD x2.toNat default)]))*88≤140737488355328)
   (.leaf (.inl (x0,x1,i64.wrap (x2+1),x3,x4,x5++[(x4.Queue.getD x2.toNat default)]))))
   (.leaf (.inl (x0,x1,i64.wrap (x2+1),x3,x4,x5)))))
  (.leaf (.inr (x3,x4,x5))))
def zsb (x0 x1 x2:Int) (x3 x4:za) (x5:(List Asked)):=zbl (fun s:Int×Int×Int×za×za×(List Asked)=>(zkg s.1 s.2.1 s.2.2.1 s.2.2.2.1 s.2.2.2.2.1 s.2.2.2.2.2).run) (x0,x1,x2,x3,x4,x5)
def zbft:Ann:=⟨[],[],[],zbfq,[]⟩
def zbfu:=EndD.mk (LQ.map (LQ.v intP (LQ.kp 0 0 (LQ.kp 1 0 (LQ.k (LQ.c (.own 2)) (LQ.k (LQ.c (.own 3)) (LQ.v intP (LQ.v intP (LQ.seq (LP.q providerL) (LQ.v intP (LQ.v intP (LQ.seq (LP.q stakeL) (LQ.k (LQ.c (.own 4)) (LQ.seq (LP.q linksL) (LQ.seq (LP.q meterL) (LQ.k (LQ.c (.own 3)) (LQ.v zac (LQ.v zac (Par.q zf)))))))))))))))))) (fun x=>(x.1,x.2.1,x.2.2.1,x.2.2.2.1,(⟨(d4 x).1,(d4 x).2.1,(d4 x).2.2.1,(d8 x).2.2.2,(d4 x).2.2.2.1,(d8 x).1,(d8 x).2.2.1⟩:za),(d8 x).2.1)) (fun y=>(y.1,y.2.1,y.2.2.1,y.2.2.2.1,(d4 y).1.Height,(d4 y).1.Time,(d4 y).1.Stake,(d4 y).1.Links,(d4 y).1.Meter,(d4 y).2,(d4 y).1.Queue,(d4 y).1.Set)) (fun _=>rfl)) ⟨[1,4,5,7,57,58,59],[.nilcell 5 65 154 (.powers []),.nilcell 5 96 112 (.asked []),.nilown 7 112 (.asked []),.nilown 57 112 (.asked [])]⟩ [.cells 63 97,.cells 63 97,.rows 112,.rows 112,.rows 154]
def zay1:=EndD.mk (LQ.map (LQ.kp 0 0 (LQ.kp 1 0 (LQ.k (LQ.c (.own 2)) (LQ.seq (LP.q providerL) (LQ.v intP (LQ.v intP (LQ.seq (LP.q stakeL) (LQ.k (LQ.c (.own 3)) (LQ.seq (LP.q linksL) (LQ.seq (LP.q meterL) (LQ.k (LQ.c (.own 4)) (LQ.v zac (LQ.v zf (Par.q zac)))))))))))))) (fun x=>(x.1,(⟨x.2.1,x.2.2.1,x.2.2.2.1,(d4 x).2.2.2.1,(d4 x).1,(d4 x).2.1,(d8 x)⟩:za),(d4 x).2.2.1)) (fun y=>(y.1,y.2.1.Height,y.2.1.Time,y.2.1.Stake,y.2.1.Links,y.2.1.Meter,y.2.2,y.2.1.Set,y.2.1.Queue)) (fun _=>rfl)) ⟨[4,5,7],[.nilcell 5 65 154 (.powers []),.nilcell 5 96 112 (.asked []),.nilown 7 112 (.asked [])]⟩ [.cells 63 97,.cells 63 97,.rows 112,.rows 154,.rows 112]
def za3e:St→Option LR:=L1 75 10 0 zbfu (.exit 0) zay1 (u6 zkg)
def zs160a:=sub (fb Tryz.f31) [0,1,0,1,1,1,1,1,1,1]
theorem zbfv:zk (zbfr).env 0 zs160a za3e :=
 zb5 (A:=zbft) zbfs fM trivial (k:=z8 zs160a) (by kernel_rfl) rfl (by rintro ⟨x0,x1,x2,x3,x4,x5⟩;kernel_rfl)
def z2r (a0:za) (a1:Int): Tr (za) :=
 (.guard ((((decide (a1 < 0))||(decide (a1 > 1)))=false→((zak a0).isSome=true)∧True))
 (.guard (((((decide (a1 < 0))||(decide (a1 > 1)))||(!((zak a0).getD default)))=false→((0:Int)≤a1∧(a1:Int) < 2)∧True))
 (.ite ((((decide (a1 < 0))||(decide (a1 > 1)))||(!((zak a0).getD default)))||(!(a0.Links.On.get a1)))
  (.leaf a0)
  (.bind (za5 a0) fun v1 =>
  (.guard ((0:Int)≤a1∧(a1:Int) < 2)
  (.bind (zqo v1.Stake a1 1099511627776) fun v3 =>
  (.bind (zsb a1 ((v1.Queue.length:Nat):Int) 0 (default:za) ({ v1 with Stake:=v3,Links:={ v1.Links with On:=(v1.Links.On.set a1 false),Gone:=(v1.Links.Gone.set a1 true),Fresh:=(v1.Links.Fresh.set a1 false),Done:=(v1.Links.Done.set a1 []),Closed:=(v1.Links.Closed.set a1 true) } }) []) fun v4 =>
  (.leaf ({ v4.2.1 with Queue:=v4.2.2 })))))))))
def zib (a0:za) (a1:Int):=(z2r a0 a1).run
def zaan:SpecT:=zn 0 (LQ.v (Par.ofLP providerL) (Par.q intP)) 2 [] (u2 z2r) default (Par.q (Par.ofLP providerL)) 1 []
theorem zais:ze Tryz.prog 31 (zaan).spec :=
 sK (A:=⟨[([0,1,0,1,1,1,1,1,1,1],za3e)],[],[],zbfq,[]⟩) zbfs fM Tryz.func31 (c:=(fb Tryz.f31)) (by kernel_rfl) (Lc:=0) ⟨zbfv,trivial⟩ _ _ 10 _ _ _ _ _ _ [.pubB 4] (by rintro ⟨a0,a1⟩;kernel_rfl)
noncomputable def zbok:EnvT:=⟨Tryz.prog,zw [(51,zb3),(108,zn5),(53,zbz)]⟩
theorem zbol:(zbok).Ok:=zd ⟨zck,zt5,zcp,trivial⟩
def zot (a0:za) (a1:Int) (a2:ByteArray): Tr (za×Int) :=
 (.bind (zak a0) fun v1 =>
 (.ite (!v1)
  (.leaf (a0,2))
  (.guard ((((decide (a1 < 0))||(decide (a1 > 1)))=false→((0:Int)≤a1∧(a1:Int) < 2)∧True))
  (.ite (((decide (a1 < 0))||(decide (a1 > 1)))||(!(a0.Links.On.get a1)))
   (.leaf (a0,4))
   (.bind (zds a2) fun v2 =>
   (.ite (v2.2 != 0)
    (.leaf (a0,v2.2))
    (.ite (v2.1.Kind==1)
     (.leaf (a0,3))
     (.bind (za5 a0) fun v3 =>
     (.guard ((Sl.len (.asked v3.Queue)+Sl.len (.asked [(⟨a1,v2.1⟩:Asked)]))*88≤140737488355328)
     (.leaf ({ v3 with Queue:=v3.Queue++[(⟨a1,v2.1⟩:Asked)] },0)))))))))))
def zcl (a0:za) (a1:Int) (a2:ByteArray):=(zot a0 a1 a2).run
def zwg:SpecT:=zn 0 (LQ.v (Par.ofLP providerL) (LQ.v intP (Par.q z67))) 3 [] (u3 zot) default (LQ.v (Par.ofLP providerL) (Par.q intP)) 2 []
theorem z6b:ze Tryz.prog 73 (zwg).spec :=
 sK (A:=⟨[],[],[],[[1,2,3,6],[1,2,3,6,13],[6,7],[1,2,3,6,28],[6,7],[1,3,6,8,9],[1,3,6,8,9,36],[6,7],[1,3,6,8,41],[6,7],[1,6,8,10],[6,10],[6,7]],[]⟩) zbol fM Tryz.func73 (c:=(fb Tryz.f73)) (by kernel_rfl) (Lc:=0) trivial _ _ 11 _ _ _ _ _ _ [.pubB 6] (by rintro ⟨a0,a1,a2⟩;kernel_rfl)
noncomputable def zbom:EnvT:=⟨Tryz.prog,zw [(51,zb3),(53,zbz),(57,z52),(21,zz3)]⟩
theorem zbon:(zbom).Ok:=zd ⟨zck,zcp,zaak,z2n,trivial⟩
def zxn (a0:za) (a1 a2:Int): Tr (za×Int) :=
 (.bind (zak a0) fun v1 =>
 (.ite (!v1)
  (.leaf (a0,2))
  (.ite ((decide (a1 < 0))||(decide (a1 > 5)))
   (.leaf (a0,4))
   (.ite ((decide (a2 < 1))||(decide (a2 > a0.Height)))
    (.leaf (a0,2))
    (.guard ((0:Int)≤a1∧(a1:Int) < 6)
    (.ite (a0.Stake.Validators.Dead.get a1)
     (.leaf (a0,15))
     (.bind (za5 a0) fun v2 =>
     (.bind (zq6 v2.Stake a1 a2 50) fun v4 =>
     (.bind (zga v4.1 a1 2) fun v5 =>
     (.leaf ({ v2 with Stake:=v5.1 },0)))))))))))
def zhj (a0:za) (a1 a2:Int):=(zxn a0 a1 a2).run
def z4t:SpecT:=zn 0 (LQ.v (Par.ofLP providerL) (LQ.v intP (Par.q intP))) 3 [] (u3 zxn) default (LQ.v (Par.ofLP providerL) (Par.q intP)) 2 []
theorem zado:ze Tryz.prog 22 (z4t).spec :=
 sK (A:=⟨[],[],[],[[1,2,3,6],[1,2,3,6,11],[6,7],[1,2,3,6,18],[6,7],[1,2,3,6,27],[6,7],[1,2,3,6,34],[6,7],[1,2,6,8],[1,6,8],[6,8],[6,7]],[]⟩) zbon fM Tryz.func22 (c:=(fb Tryz.f22)) (by kernel_rfl) (Lc:=0) trivial _ _ 8 _ _ _ _ _ _ [.pubB 6] (by rintro ⟨a0,a1,a2⟩;kernel_rfl)
def za65:List (List Nat):=[[2,3,4],[2,3,4,6],[2,3,4,6,7],[2,3,4,6,7,26],[2,4],[4,5],[2,3,4,6,7,40],[2,3,4,6,43],[2,4,6],[2,4],[4,5],[2,3,4,6,7,74],[2,3,4,6,8,9],[2,3,4,6,8,86],[4,5],[2,3,4,6],[2,3,4,6],[2,3,4,6,10],[2,3,4,6,10,98],[2,3,4,6,10,98,99],[2,3,4,6,10,11,98],[2,3,4,6,10,11,12,98],[2,3,4,6,10,11,12,98,109,110,111],[2,3,4,6,10,11,12,98,109,110,111,112],[2,3,4,6,10,11,12,14,98,109,110,111],[2,3,4,6,10,11,12,98,109,110,111],[2,3,4,6,10,11,12,98,109,110,111],[2,3,4,6,10,11,98,122],[2,3,4,6,10,98],[2,3,4,6,10,98],[2,4],[4,5]]
noncomputable def za66:EnvT:=⟨Tryz.prog,zw [(77,zz2),(57,z52),(21,zz3),(105,z1z)]⟩
theorem za67:(za66).Ok:=zd ⟨z4r,zaak,z2n,zaa1,trivial⟩
def z0a (x0 x1:Int) (x2:Bool) (x3:Int) (x4:(List Int)) (x5 x6:Int) (x7:za) (x8:Asked) (x9:za) (x10:(List Int)): Tr ((Int×Int×Bool×Int×(List Int)×Int×Int×za×Asked×za×(List Int))⊕(Int×Int×Bool×Int×za×Asked×za×(List Int))) :=
 (.ite (decide (x6 < x5))
  (.guard ((0:Int)≤x6∧x6 < ((Sl.len (.ints x4):Nat):Int))
  (.leaf (.inl (x0,x1,x2||((x4.getD x6.toNat 0)==x1),x3,x4,x5,i64.wrap (x6+1),x7,x8,x9,x10))))
  (.leaf (.inr (x0,x1,x2,x3,x7,x8,x9,x10))))
def z4u (x0 x1:Int) (x2:Bool) (x3:Int) (x4:(List Int)) (x5 x6:Int) (x7:za) (x8:Asked) (x9:za) (x10:(List Int)):=zbl (fun s:Int×Int×Bool×Int×(List Int)×Int×Int×za×Asked×za×(List Int)=>(z0a s.1 s.2.1 s.2.2.1 s.2.2.2.1 s.2.2.2.2.1 s.2.2.2.2.2.1 s.2.2.2.2.2.2.1 s.2.2.2.2.2.2.2.1 s.2.2.2.2.2.2.2.2.1 s.2.2.2.2.2.2.2.2.2.1 s.2.2.2.2.2.2.2.2.2.2).run) (x0,x1,x2,x3,x4,x5,x6,x7,x8,x9,x10)
def z0b (x0 x1:Int) (x2:za) (x3:Asked) (x4:za) (x5:(List Int)): Tr ((Int×Int×za×Asked×za×(List Int))⊕(za×Asked×za×(List Int))) :=
 (.ite (decide (x1 < 6))
  (.guard ((0:Int)≤x3.C∧(x3.C:Int) < 2)
  (.bind (z4u x0 x1 (x1==x0) x1 (x2.Links.Done.get x3.C) (((x2.Links.Done.get x3.C).length:Nat):Int) 0 x2 x3 x4 x5) fun v5 =>
  (.ite (v5.2.2.1)
   (.guard ((Sl.len (.ints v5.2.2.2.2.2.2.2)+Sl.len (.ints [v5.2.1]))*8≤140737488355328)
   (.leaf (.inl (v5.1,i64.wrap (v5.2.2.2.1+1),v5.2.2.2.2.1,v5.2.2.2.2.2.1,v5.2.2.2.2.2.2.1,v5.2.2.2.2.2.2.2++[v5.2.1]))))
   (.leaf (.inl (v5.1,i64.wrap (v5.2.2.2.1+1),v5.2.2.2.2.1,v5.2.2.2.2.2.1,v5.2.2.2.2.2.2.1,v5.2.2.2.2.2.2.2))))))
  (.leaf (.inr (x2,x3,x4,x5))))
def zxo (x0 x1:Int) (x2:za) (x3:Asked) (x4:za) (x5:(List Int)):=zbl (fun s:Int×Int×za×Asked×za×(List Int)=>(z0b s.1 s.2.1 s.2.2.1 s.2.2.2.1 s.2.2.2.2.1 s.2.2.2.2.2).run) (x0,x1,x2,x3,x4,x5)
def ztd (x0 x1:Int) (x2:Bool) (x3:Int) (x4:(List Int)) (x5 x6:Int) (x7:za) (x8:Asked) (x9:za) (x10:(List Int)): Tr ((Int×Int×Bool×Int×(List Int)×Int×Int×za×Asked×za×(List Int))⊕(Int×Int×Bool×Int×za×Asked×za×(List Int))) :=
 (.ite (decide (x6 < x5))
  (.guard ((0:Int)≤x6∧x6 < ((Sl.len (.ints x4):Nat):Int))
  (.leaf (.inl (x0,x1,x2||((x4.getD x6.toNat 0)==x1),x3,x4,x5,i64.wrap (x6+1),x7,x8,x9,x10))))
  (.leaf (.inr (x0,x1,x2,x3,x7,x8,x9,x10))))
def z4v (x0 x1:Int) (x2:Bool) (x3:Int) (x4:(List Int)) (x5 x6:Int) (x7:za) (x8:Asked) (x9:za) (x10:(List Int)):=zbl (fun s:Int×Int×Bool×Int×(List Int)×Int×Int×za×Asked×za×(List Int)=>(ztd s.1 s.2.1 s.2.2.1 s.2.2.2.1 s.2.2.2.2.1 s.2.2.2.2.2.1 s.2.2.2.2.2.2.1 s.2.2.2.2.2.2.2.1 s.2.2.2.2.2.2.2.2.1 s.2.2.2.2.2.2.2.2.2.1 s.2.2.2.2.2.2.2.2.2.2).run) (x0,x1,x2,x3,x4,x5,x6,x7,x8,x9,x10)
def zbfw:Ann:=⟨[],[],[],za65,[]⟩
def zbfx:=EndD.mk (LQ.map (LQ.kp 0 0 (LQ.kp 1 0 (LQ.kp 2 0 (LQ.v intP (LQ.k (LQ.c (.own 3)) (LQ.v intP (LQ.v boolP (LQ.v intP (LQ.v za7 (LQ.v intP (LQ.v intP (LQ.v intP (LQ.v intP (LQ.seq (LP.q stakeL) (LQ.v zf (LQ.seq (LP.q linksL) (LQ.seq (LP.q meterL) (LQ.k (LQ.c (.own 4)) (LQ.seq (LP.q z4c) (LQ.seq (LP.q providerL) (LQ.v za7 (Par.q zac)))))))))))))))))))))) (fun x=>(x.1,x.2.1,x.2.2.1,x.2.2.2.1,(d4 x).1,(d4 x).2.1,(d4 x).2.2.1,(⟨(d4 x).2.2.2.1,(d8 x).1,(d8 x).2.1,(d8 x).2.2.1,(d8 x).2.2.2.1,(d12 x).1,(d16 x)⟩:za),(d12 x).2.1,(d12 x).2.2.1,(d12 x).2.2.2.1)) (fun y=>(y.1,y.2.1,y.2.2.1,y.2.2.2.1,(d4 y).1,(d4 y).2.1,(d4 y).2.2.1,(d4 y).2.2.2.1.Height,(d4 y).2.2.2.1.Time,(d4 y).2.2.2.1.Stake,(d4 y).2.2.2.1.Set,(d4 y).2.2.2.1.Links,(d4 y).2.2.2.1.Meter,(d8 y).1,(d8 y).2.1,(d8 y).2.2,(d4 y).2.2.2.1.Queue)) (fun _=>rfl)) ⟨[2,3,4,6,10,11,12,98,109,110,111],[.nilcell 2 96 112 (.asked []),.nilown 10 3 (.ints []),.pub 109,.nilsl 109 (.ints [])]⟩ [.cells 63 97,.cells 112 7,.cells 63 97,.rows 3,.rows 112]
def zay2:=EndD.mk (LQ.map (LQ.kp 0 0 (LQ.kp 1 0 (LQ.kp 2 0 (LQ.v intP (LQ.k (LQ.c (.own 3)) (LQ.v intP (LQ.v boolP (LQ.v intP (LQ.v intP (LQ.v intP (LQ.seq (LP.q stakeL) (LQ.v zf (LQ.seq (LP.q linksL) (LQ.seq (LP.q meterL) (LQ.k (LQ.c (.own 4)) (LQ.seq (LP.q z4c) (LQ.seq (LP.q providerL) (LQ.v za7 (Par.q zac))))))))))))))))))) (fun x=>(x.1,x.2.1,x.2.2.1,x.2.2.2.1,(⟨(d4 x).1,(d4 x).2.1,(d4 x).2.2.1,(d4 x).2.2.2.1,(d8 x).1,(d8 x).2.1,(d12 x).2⟩:za),(d8 x).2.2.1,(d8 x).2.2.2.1,(d12 x).1)) (fun y=>(y.1,y.2.1,y.2.2.1,y.2.2.2.1,(d4 y).1.Height,(d4 y).1.Time,(d4 y).1.Stake,(d4 y).1.Set,(d4 y).1.Links,(d4 y).1.Meter,(d4 y).2.1,(d4 y).2.2.1,(d4 y).2.2.2,(d4 y).1.Queue)) (fun _=>rfl)) ⟨[2,3,4,6,10,11,12,98],[.nilcell 2 96 112 (.asked []),.nilown 10 3 (.ints [])]⟩ [.cells 63 97,.cells 112 7,.cells 63 97,.rows 3,.rows 112]
def za3f:St→Option LR:=L1 135 9 0 zbfx (.exit 2) zay2 (u11 ztd)
def zs163c:=sub (fb Tryz.f60) [0,1,0,1,1,0,0,1,1,0,0,1,0,1,1,1,1,1,1,1]
theorem zbfy:zk (za66).env 0 zs163c za3f :=
 zb5 (A:=zbfw) za67 fM trivial (k:=z8 zs163c) (by kernel_rfl) rfl (by rintro ⟨x0,x1,x2,x3,x4,x5,x6,x7,x8,x9,x10⟩;kernel_rfl)
def zte (x0 x1:Int) (x2:za) (x3:Asked) (x4:za) (x5:(List Int)): Tr ((Int×Int×za×Asked×za×(List Int))⊕(za×Asked×za×(List Int))) :=
 (.ite (decide (x1 < 6))
  (.guard ((0:Int)≤x3.C∧(x3.C:Int) < 2)
  (.bind (z4v x0 x1 (x1==x0) x1 (x2.Links.Done.get x3.C) (((x2.Links.Done.get x3.C).length:Nat):Int) 0 x2 x3 x4 x5) fun v7 =>
  (.ite (v7.2.2.1)
   (.guard ((Sl.len (.ints v7.2.2.2.2.2.2.2)+Sl.len (.ints [v7.2.1]))*8≤140737488355328)
   (.leaf (.inl (v7.1,i64.wrap (v7.2.2.2.1+1),v7.2.2.2.2.1,v7.2.2.2.2.2.1,v7.2.2.2.2.2.2.1,v7.2.2.2.2.2.2.2++[v7.2.1]))))
   (.leaf (.inl (v7.1,i64.wrap (v7.2.2.2.1+1),v7.2.2.2.2.1,v7.2.2.2.2.2.1,v7.2.2.2.2.2.2.1,v7.2.2.2.2.2.2.2))))))
  (.leaf (.inr (x2,x3,x4,x5))))
def zxp (x0 x1:Int) (x2:za) (x3:Asked) (x4:za) (x5:(List Int)):=zbl (fun s:Int×Int×za×Asked×za×(List Int)=>(zte s.1 s.2.1 s.2.2.1 s.2.2.2.1 s.2.2.2.2.1 s.2.2.2.2.2).run) (x0,x1,x2,x3,x4,x5)
def zbfz:Ann:=⟨[([0,1,0,1,1,0,0,1,1,0,0,1,0,1,1,1,1,1,1,1],za3f)],[],[],za65,[]⟩
def zbf0:=EndD.mk (LQ.map (LQ.kp 0 0 (LQ.kp 1 0 (LQ.kp 2 0 (LQ.v intP (LQ.k (LQ.c (.own 3)) (LQ.v intP (LQ.v intP (LQ.v intP (LQ.seq (LP.q stakeL) (LQ.v zf (LQ.seq (LP.q linksL) (LQ.seq (LP.q meterL) (LQ.k (LQ.c (.own 4)) (LQ.seq (LP.q z4c) (LQ.seq (LP.q providerL) (LQ.v za7 (Par.q zac))))))))))))))))) (fun x=>(x.1,x.2.1,(⟨x.2.2.1,x.2.2.2.1,(d4 x).1,(d4 x).2.1,(d4 x).2.2.1,(d4 x).2.2.2.1,(d8 x).2.2.2⟩:za),(d8 x).1,(d8 x).2.1,(d8 x).2.2.1)) (fun y=>(y.1,y.2.1,y.2.2.1.Height,y.2.2.1.Time,y.2.2.1.Stake,y.2.2.1.Set,y.2.2.1.Links,y.2.2.1.Meter,y.2.2.2.1,(d4 y).1,(d4 y).2,y.2.2.1.Queue)) (fun _=>rfl)) ⟨[2,3,4,6,10,98],[.nilcell 2 96 112 (.asked []),.nilown 10 3 (.ints [])]⟩ [.cells 63 97,.cells 112 7,.cells 63 97,.rows 3,.rows 112]
def zay3:=EndD.mk (LQ.map (LQ.kp 0 0 (LQ.kp 1 0 (LQ.kp 2 0 (LQ.k (LQ.c (.own 3)) (LQ.v intP (LQ.v intP (LQ.seq (LP.q stakeL) (LQ.v zf (LQ.seq (LP.q linksL) (LQ.seq (LP.q meterL) (LQ.k (LQ.c (.own 4)) (LQ.seq (LP.q z4c) (LQ.seq (LP.q providerL) (LQ.v za7 (Par.q zac))))))))))))))) (fun x=>((⟨x.1,x.2.1,x.2.2.1,x.2.2.2.1,(d4 x).1,(d4 x).2.1,(d8 x).2⟩:za),(d4 x).2.2.1,(d4 x).2.2.2.1,(d8 x).1)) (fun y=>(y.1.Height,y.1.Time,y.1.Stake,y.1.Set,y.1.Links,y.1.Meter,y.2.1,y.2.2.1,y.2.2.2,y.1.Queue)) (fun _=>rfl)) ⟨[2,3,4,10],[.nilcell 2 96 112 (.asked []),.nilown 10 3 (.ints [])]⟩ [.cells 63 97,.cells 112 7,.cells 63 97,.rows 3,.rows 112]
def za3g:St→Option LR:=L1 135 9 0 zbf0 (.exit 0) zay3 (u6 zte)
def zs163d:=sub (fb Tryz.f60) [0,1,0,1,1,1,1,1,1,1]
theorem zbf1:zk (za66).env 0 zs163d za3g :=
 zb5 (A:=zbfz) za67 fM ⟨zbfy,trivial⟩ (k:=z8 zs163d) (by kernel_rfl) rfl (by rintro ⟨x0,x1,x2,x3,x4,x5⟩;kernel_rfl)
def z9l (a0:za) (a1:Asked): Tr (za×Bool) :=
 (.guard ((0:Int)≤a1.P.V∧(a1.P.V:Int) < 6)
 (.ite (a1.P.Kind==2)
  (.bind (zqo a0.Stake a1.C a1.P.Id) fun v1 =>
  (.leaf ({ a0 with Stake:=v1 },true)))
  (.ite (a1.P.Kind==4)
   (.ite (!(a0.Stake.Validators.Dead.get a1.P.V))
    (.guard ((0:Int)≤a1.C∧(a1.C:Int) < 2)
    (.guard ((zq6 a0.Stake a1.P.V (if (a0.Links.Base.get a1.C) > a1.P.Id then (a0.Links.Base.get a1.C) else a1.P.Id) 50).isSome=true)
    (.bind (zga (((zq6 a0.Stake a1.P.V (if (a0.Links.Base.get a1.C) > a1.P.Id then (a0.Links.Base.get a1.C) else a1.P.Id) 50).getD default).1) a1.P.V 2) fun v2 =>
    (.leaf ({ a0 with Stake:=v2.1 },true)))))
    (.leaf (a0,true)))
   (.ite (!(a0.Stake.Validators.Jailed.get a1.P.V))
    (.guard ((100:Int)≠0)
    (.bind (zrq a0.Meter (if (i64.wrap (Int.tdiv (a0.Stake.Validators.Tokens.get a1.P.V) 100)) > 1 then (i64.wrap (Int.tdiv (a0.Stake.Validators.Tokens.get a1.P.V) 100)) else 1)) fun v3 =>
    (.ite (!v3.2)
     (.leaf (a0,false))
     (.bind (zga a0.Stake a1.P.V 0) fun v4 =>
     (.bind (zxo a1.P.V 0 ({ a0 with Stake:=v4.1,Meter:=v3.1 }) a1 (default:za) []) fun v6 =>
     (.guard ((0:Int)≤v6.2.1.C∧(v6.2.1.C:Int) < 2)
     (.leaf ({ v6.1 with Links:={ v6.1.Links with Done:=(v6.1.Links.Done.set v6.2.1.C v6.2.2.2) } },true))))))))
    (.bind (zxp a1.P.V 0 a0 a1 (default:za) []) fun v8 =>
    (.guard ((0:Int)≤v8.2.1.C∧(v8.2.1.C:Int) < 2)
    (.leaf ({ v8.1 with Links:={ v8.1.Links with Done:=(v8.1.Links.Done.set v8.2.1.C v8.2.2.2) } },true))))))))
def z6c (a0:za) (a1:Asked):=(z9l a0 a1).run
def zagn:SpecT:=zn 0 (LQ.map (LQ.seq (LQ.agg (LQ.v intP (LQ.v intP (LQ.seq (LP.q stakeL) (LQ.v zf (LQ.seq (LP.q linksL) (LQ.skipR (LP.q meterL) (LQ.c (.own 0))))))))) (LQ.v (Par.ofLP z4c) (Par.q zac))) (fun x=>((⟨x.1.1,x.1.2.1,x.1.2.2.1,x.1.2.2.2.1,x.1.2.2.2.2.1,x.1.2.2.2.2.2,x.2.2⟩:za),x.2.1)) (fun y=>((y.1.Height,y.1.Time,y.1.Stake,y.1.Set,y.1.Links,y.1.Meter),y.2,y.1.Queue)) (fun _=>rfl)) 2 [.rows 112] (u2 z9l) default (LQ.map (LQ.seq (LQ.agg (LQ.v intP (LQ.v intP (LQ.seq (LP.q stakeL) (LQ.v zf (LQ.seq (LP.q linksL) (LQ.skipR (LP.q meterL) (LQ.c (.own 0))))))))) (LQ.v boolP (Par.q zac))) (fun x=>((⟨x.1.1,x.1.2.1,x.1.2.2.1,x.1.2.2.2.1,x.1.2.2.2.2.1,x.1.2.2.2.2.2,x.2.2⟩:za),x.2.1)) (fun y=>((y.1.Height,y.1.Time,y.1.Stake,y.1.Set,y.1.Links,y.1.Meter),y.2,y.1.Queue)) (fun _=>rfl)) 2 [.rows 112]
theorem zam7:ze Tryz.prog 60 (zagn).spec :=
 sK (A:=⟨[([0,1,0,1,1,1,1,1,1,1],za3g)],[],[],za65,[]⟩) za67 fM Tryz.func60 (c:=(fb Tryz.f60)) (by kernel_rfl) (Lc:=0) ⟨zbf1,trivial⟩ _ _ 9 _ _ _ _ _ _ [] (by rintro ⟨a0,a1⟩;kernel_rfl)
def zay4:List (List Nat):=[[1,2,4],[1,2,4,34],[4,5,6],[1,2,4,7],[1,2,4,7],[1,2,4,7],[1,4,7],[1,4,7,8],[1,4,7,8],[1,4,7,55,56,57],[1,4,7,55,56,57,58],[1,4,7,10,55,56,57],[1,4,7,10,11,55,56,57],[1,4,7,10,11,55,56,57,62,63,64],[1,4,7,10,11,55,56,57,62,63,64,65],[1,4,7,10,11,13,55,56,57,62,63,64],[1,4,7,10,11,55,56,57,62,63,64],[1,4,7,10,11,55,56,57,62,63,64],[1,4,7,10,11,14,55,56,57],[1,4,7,10,14,55,56,57,78],[1,4,7,10,14,55,56,57],[1,4,7,10,55,56,57,86],[1,4,7,55,56,57],[1,4,7,55,56,57],[1,4,7],[1,4,7,15],[1,4,7,15],[1,4,7,15,107],[1,4,7,15,107,108],[1,4,7,15,16,107],[1,4,7,15,17,107],[1,4,7,15,17,18,107],[1,4,7,15,17,18,107,142],[1,4,7,15,17,19,20,107],[1,4,7,15,17,19,107,156],[1,4,7,15,17,20,21,107],[1,4,7,15,17,21,107,169],[1,4,7,15,107],[1,4,7,15,107],[4,5,6]]
noncomputable def zay5:EnvT:=⟨Tryz.prog,zw [(51,zb3),(53,zbz),(59,zadj),(58,z1y),(60,zagn),(61,zaaj),(62,zakt),(63,zagm),(64,zju),(65,zac2)]⟩
theorem zay6:(zay5).Ok:=zd ⟨zck,zcp,zaks,zaa0,zam7,zaiq,zaqo,zam6,zmu,zagl,trivial⟩
def zey (x0:Int) (x1:Bool) (x2 x3 x4 x5:Int) (x6 x7:za) (x8:Asked) (x9:(List Asked)): Tr ((Int×Bool×Int×Int×Int×Int×za×za×Asked×(List Asked))⊕(Int×Bool×Int×Int×za×za×Asked×(List Asked))) :=
 (.ite (decide (x5 < x4))
  (.guard ((0:Int)≤x5∧x5 < ((Sl.len (.asked x7.Queue):Nat):Int))
  (.leaf (.inl (x0,x1||(((x7.Queue.getD x5.toNat default).C)==x8.C),x2,x3,x4,i64.wrap (x5+1),x6,x7,x8,x9))))
  (.leaf (.inr (x0,x1,x2,x3,x6,x7,x8,x9))))
def zkh (x0:Int) (x1:Bool) (x2 x3 x4 x5:Int) (x6 x7:za) (x8:Asked) (x9:(List Asked)):=zbl (fun s:Int×Bool×Int×Int×Int×Int×za×za×Asked×(List Asked)=>(zey s.1 s.2.1 s.2.2.1 s.2.2.2.1 s.2.2.2.2.1 s.2.2.2.2.2.1 s.2.2.2.2.2.2.1 s.2.2.2.2.2.2.2.1 s.2.2.2.2.2.2.2.2.1 s.2.2.2.2.2.2.2.2.2).run) (x0,x1,x2,x3,x4,x5,x6,x7,x8,x9)
def zbf2:Ann:=⟨[],[],[],zay4,[(20,[6600007])]⟩
def zbf3:=EndD.mk (LQ.map (LQ.v intP (LQ.kp 0 0 (LQ.kp 1 0 (LQ.kp 2 0 (LQ.v boolP (LQ.k (LQ.c (.own 3)) (LQ.v intP (LQ.v intP (LQ.k (LQ.c (.own 4)) (LQ.v intP (LQ.v intP (LQ.seq (LP.q providerL) (LQ.v intP (LQ.v intP (LQ.seq (LP.q stakeL) (LQ.v zf (LQ.seq (LP.q linksL) (LQ.seq (LP.q meterL) (LQ.k (LQ.c (.own 4)) (LQ.seq (LP.q z4c) (LQ.v zac (Par.q zac)))))))))))))))))))))) (fun x=>(x.1,x.2.1,x.2.2.1,x.2.2.2.1,(d4 x).1,(d4 x).2.1,(d4 x).2.2.1,(⟨(d4 x).2.2.2.1,(d8 x).1,(d8 x).2.1,(d8 x).2.2.1,(d8 x).2.2.2.1,(d12 x).1,(d12 x).2.2.2⟩:za),(d12 x).2.1,(d12 x).2.2.1)) (fun y=>(y.1,y.2.1,y.2.2.1,y.2.2.2.1,(d4 y).1,(d4 y).2.1,(d4 y).2.2.1,(d4 y).2.2.2.1.Height,(d4 y).2.2.2.1.Time,(d4 y).2.2.2.1.Stake,(d4 y).2.2.2.1.Set,(d4 y).2.2.2.1.Links,(d4 y).2.2.2.1.Meter,(d8 y).1,(d8 y).2,(d4 y).2.2.2.1.Queue)) (fun _=>rfl)) ⟨[1,4,7,10,11,55,56,57,62,63,64],[.nilcell 7 96 112 (.asked []),.nilown 55 112 (.asked []),.nilown 62 112 (.asked [])]⟩ [.cells 63 97,.cells 63 97,.cells 112 7,.rows 112,.rows 112]
def zay7:=EndD.mk (LQ.map (LQ.v intP (LQ.kp 0 0 (LQ.kp 1 0 (LQ.kp 2 0 (LQ.v boolP (LQ.k (LQ.c (.own 3)) (LQ.v intP (LQ.v intP (LQ.seq (LP.q providerL) (LQ.v intP (LQ.v intP (LQ.seq (LP.q stakeL) (LQ.v zf (LQ.seq (LP.q linksL) (LQ.seq (LP.q meterL) (LQ.k (LQ.c (.own 4)) (LQ.seq (LP.q z4c) (LQ.v zac (Par.q zac))))))))))))))))))) (fun x=>(x.1,x.2.1,x.2.2.1,x.2.2.2.1,(d4 x).1,(⟨(d4 x).2.1,(d4 x).2.2.1,(d4 x).2.2.2.1,(d8 x).1,(d8 x).2.1,(d8 x).2.2.1,(d12 x).2⟩:za),(d8 x).2.2.2.1,(d12 x).1)) (fun y=>(y.1,y.2.1,y.2.2.1,y.2.2.2.1,(d4 y).1,(d4 y).2.1.Height,(d4 y).2.1.Time,(d4 y).2.1.Stake,(d4 y).2.1.Set,(d4 y).2.1.Links,(d4 y).2.1.Meter,(d4 y).2.2.1,(d4 y).2.2.2,(d4 y).2.1.Queue)) (fun _=>rfl)) ⟨[1,4,7,10,11,55,56,57],[.nilcell 7 96 112 (.asked []),.nilown 55 112 (.asked [])]⟩ [.cells 63 97,.cells 63 97,.cells 112 7,.rows 112,.rows 112]
def za3h:St→Option LR:=L1 189 12 0 zbf3 (.exit 2) zay7 (u10 zey)
def zs164a:=sub (fb Tryz.f23) [0,1,0,1,1,0,0,1,1,0,0,1,0,1,1,1,1,1,1,1,1]
theorem zbf4:zk (zay5).env 0 zs164a za3h :=
 zb5 (A:=zbf2) zay6 fM trivial (k:=z8 zs164a) (by kernel_rfl) rfl (by rintro ⟨x0,x1,x2,x3,x4,x5,x6,x7,x8,x9⟩;kernel_rfl)
def zez (x0 x1 x2:Int) (x3 x4:za) (x5:(List Asked)): Tr ((Int×Int×Int×za×za×(List Asked))⊕(Int×za×za)) :=
 (.ite (decide (x2 < x1))
  (.guard ((0:Int)≤x2∧x2 < ((Sl.len (.asked x5):Nat):Int))
  (.bind (zkh x0 false x1 x2 ((x4.Queue.length:Nat):Int) 0 x3 x4 (x5.getD x2.toNat default) x5) fun v3 =>
  (.ite (!v3.2.1)
   (.bind (z6c v3.2.2.2.2.2.1 v3.2.2.2.2.2.2.1) fun v4 =>
   (.ite (!v4.2)
    (.guard ((Sl.len (.asked v4.1.Queue)+Sl.len (.asked [v3.2.2.2.2.2.2.1]))*88≤140737488355328)
    (.leaf (.inl (v3.1,v3.2.2.1,i64.wrap (v3.2.2.2.1+1),v3.2.2.2.2.1,{ v4.1 with Queue:=v4.1.Queue++[v3.2.2.2.2.2.2.1] },v3.2.2.2.2.2.2.2))))
    (.leaf (.inl (v3.1,v3.2.2.1,i64.wrap (v3.2.2.2.1+1),v3.2.2.2.2.1,v4.1,v3.2.2.2.2.2.2.2)))))
   (.ite (true)
    (.guard ((Sl.len (.asked v3.2.2.2.2.2.1.Queue)+Sl.len (.asked [v3.2.2.2.2.2.2.1]))*88≤140737488355328)
    (.leaf (.inl (v3.1,v3.2.2.1,i64.wrap (v3.2.2.2.1+1),v3.2.2.2.2.1,{ v3.2.2.2.2.2.1 with Queue:=v3.2.2.2.2.2.1.Queue++[v3.2.2.2.2.2.2.1] },v3.2.2.2.2.2.2.2))))
    (.leaf (.inl (v3.1,v3.2.2.1,i64.wrap (v3.2.2.2.1+1),v3.2.2.2.2.1,v3.2.2.2.2.2.1,v3.2.2.2.2.2.2.2)))))))
  (.leaf (.inr (x0,x3,x4))))
def zgf (x0 x1 x2:Int) (x3 x4:za) (x5:(List Asked)):=zbl (fun s:Int×Int×Int×za×za×(List Asked)=>(zez s.1 s.2.1 s.2.2.1 s.2.2.2.1 s.2.2.2.2.1 s.2.2.2.2.2).run) (x0,x1,x2,x3,x4,x5)
def zbf5:Ann:=⟨[([0,1,0,1,1,0,0,1,1,0,0,1,0,1,1,1,1,1,1,1,1],za3h)],[],[],zay4,[(20,[6600007])]⟩
def zbf6:=EndD.mk (LQ.map (LQ.v intP (LQ.kp 0 0 (LQ.kp 1 0 (LQ.k (LQ.c (.own 2)) (LQ.v intP (LQ.v intP (LQ.seq (LP.q providerL) (LQ.v intP (LQ.v intP (LQ.seq (LP.q stakeL) (LQ.v zf (LQ.seq (LP.q linksL) (LQ.seq (LP.q meterL) (LQ.k (LQ.c (.own 3)) (LQ.v zac (Par.q zac)))))))))))))))) (fun x=>(x.1,x.2.1,x.2.2.1,x.2.2.2.1,(⟨(d4 x).1,(d4 x).2.1,(d4 x).2.2.1,(d4 x).2.2.2.1,(d8 x).1,(d8 x).2.1,(d8 x).2.2.2⟩:za),(d8 x).2.2.1)) (fun y=>(y.1,y.2.1,y.2.2.1,y.2.2.2.1,(d4 y).1.Height,(d4 y).1.Time,(d4 y).1.Stake,(d4 y).1.Set,(d4 y).1.Links,(d4 y).1.Meter,(d4 y).2,(d4 y).1.Queue)) (fun _=>rfl)) ⟨[1,4,7,55,56,57],[.pubC 7 63,.pubC 7 65,.nilcell 7 96 112 (.asked []),.nilown 55 112 (.asked [])]⟩ [.cells 63 97,.cells 63 97,.rows 112,.rows 112]
def zay8:=EndD.mk (LQ.map (LQ.v intP (LQ.kp 0 0 (LQ.kp 1 0 (LQ.seq (LP.q providerL) (LQ.v intP (LQ.v intP (LQ.seq (LP.q stakeL) (LQ.v zf (LQ.seq (LP.q linksL) (LQ.seq (LP.q meterL) (LQ.k (LQ.c (.own 2)) (Par.q zac)))))))))))) (fun x=>(x.1,x.2.1,(⟨x.2.2.1,x.2.2.2.1,(d4 x).1,(d4 x).2.1,(d4 x).2.2.1,(d4 x).2.2.2.1,(d8 x)⟩:za))) (fun y=>(y.1,y.2.1,y.2.2.Height,y.2.2.Time,y.2.2.Stake,y.2.2.Set,y.2.2.Links,y.2.2.Meter,y.2.2.Queue)) (fun _=>rfl)) ⟨[1,4,7],[.pubC 7 63,.pubC 7 65,.nilcell 7 96 112 (.asked [])]⟩ [.cells 63 97,.cells 63 97,.rows 112]
def za3i:St→Option LR:=L1 189 12 0 zbf6 (.exit 0) zay8 (u6 zez)
def zs164b:=sub (fb Tryz.f23) [0,1,0,1,1,1,1,1,1,1,1]
theorem zbf7:zk (zay5).env 0 zs164b za3i :=
 zb5 (A:=zbf5) zay6 fM ⟨zbf4,trivial⟩ (k:=z8 zs164b) (by kernel_rfl) rfl (by rintro ⟨x0,x1,x2,x3,x4,x5⟩;kernel_rfl)
def ze0 (x0:Int) (x1:(List Int)) (x2:Int) (x3 x4:za): Tr ((Int×(List Int)×Int×za×za)⊕((List Int)×za×za)) :=
 (.ite (decide (x2 < 2))
  (.guard ((0:Int)≤x2∧(x2:Int) < 2)
  (.guard ((zkc (x4.Links.Told.get x2) x4.Set).isSome=true)
  (.ite ((!(x4.Links.On.get x2))||(((i64.wrap (((((zkc (x4.Links.Told.get x2) x4.Set).getD default).length:Nat):Int)+(((x4.Links.Done.get x2).length:Nat):Int)))==0)&&(!(x4.Links.Fresh.get x2))))
   (.leaf (.inl (x0,x1,i64.wrap (x2+1),x3,x4)))
   (.guard ((za8 (⟨1,x4.Height,0,0,((zkc (x4.Links.Told.get x2) x4.Set).getD default),x4.Links.Done.get x2⟩:Packet)).isSome=true)
   (.ite ((((za8 (⟨1,x4.Height,0,0,((zkc (x4.Links.Told.get x2) x4.Set).getD default),x4.Links.Done.get x2⟩:Packet)).getD default).2) != 0)
    (.leaf (.inl (x0,x1,i64.wrap (x2+1),x3,x4)))
    (.bind (z3i (⟨x4.Links.Said.get x2,x4.Links.Due.get x2,x4.Links.Got.get x2,x4.Links.Closed.get x2⟩:zbs) (((za8 (⟨1,x4.Height,0,0,((zkc (x4.Links.Told.get x2) x4.Set).getD default),x4.Links.Done.get x2⟩:Packet)).getD default).1) (i64.wrap (x0+40))) fun v8 =>
    (.ite (v8.2 != 0)
     (.leaf (.inl (x0,x1,i64.wrap (x2+1),x3,x4)))
     (.guard ((0+Sl.len (.powers x4.Set))*16≤140737488355328)
     (.leaf (.inl (x0,x1,i64.wrap (x2+1),x3,{ x4 with Links:={ x4.Links with Told:=(x4.Links.Told.set x2 x4.Set),Fresh:=(x4.Links.Fresh.set x2 false),Done:=(x4.Links.Done.set x2 []),Said:=(x4.Links.Said.set x2 v8.1.Said),Due:=(x4.Links.Due.set x2 v8.1.Due),Got:=(x4.Links.Got.set x2 v8.1.Got),Closed:=(x4.Links.Closed.set x2 v8.1.Closed) } })))))))))))
  (.leaf (.inr (x1,x3,x4))))
def zki (x0:Int) (x1:(List Int)) (x2:Int) (x3 x4:za):=zbl (fun s:Int×(List Int)×Int×za×za=>(ze0 s.1 s.2.1 s.2.2.1 s.2.2.2.1 s.2.2.2.2).run) (x0,x1,x2,x3,x4)
def zbf8:Ann:=⟨[],[],[],zay4,[(20,[6600007])]⟩
def zbf9:=EndD.mk (LQ.map (LQ.v intP (LQ.kp 0 0 (LQ.kp 1 0 (LQ.v za7 (LQ.v intP (LQ.seq (LP.q providerL) (LQ.v intP (LQ.v intP (LQ.seq (LP.q stakeL) (LQ.v zf (LQ.seq (LP.q linksL) (LQ.seq (LP.q meterL) (LQ.k (LQ.c (.own 2)) (Par.q zac)))))))))))))) (fun x=>(x.1,x.2.1,x.2.2.1,x.2.2.2.1,(⟨(d4 x).1,(d4 x).2.1,(d4 x).2.2.1,(d4 x).2.2.2.1,(d8 x).1,(d8 x).2.1,(d8 x).2.2⟩:za))) (fun y=>(y.1,y.2.1,y.2.2.1,y.2.2.2.1,(d4 y).Height,(d4 y).Time,(d4 y).Stake,(d4 y).Set,(d4 y).Links,(d4 y).Meter,(d4 y).Queue)) (fun _=>rfl)) ⟨[1,4,7,15,107],[.nilcell 7 96 112 (.asked []),.pub 15,.nilsl 15 (.ints [])]⟩ [.cells 63 97,.cells 63 97,.rows 112]
def zay9:=EndD.mk (LQ.map (LQ.kp 0 0 (LQ.kp 1 0 (LQ.v za7 (LQ.seq (LP.q providerL) (LQ.v intP (LQ.v intP (LQ.seq (LP.q stakeL) (LQ.v zf (LQ.seq (LP.q linksL) (LQ.seq (LP.q meterL) (LQ.k (LQ.c (.own 2)) (Par.q zac)))))))))))) (fun x=>(x.1,x.2.1,(⟨x.2.2.1,x.2.2.2.1,(d4 x).1,(d4 x).2.1,(d4 x).2.2.1,(d4 x).2.2.2.1,(d8 x)⟩:za))) (fun y=>(y.1,y.2.1,y.2.2.Height,y.2.2.Time,y.2.2.Stake,y.2.2.Set,y.2.2.Links,y.2.2.Meter,y.2.2.Queue)) (fun _=>rfl)) ⟨[4,7,15],[.nilcell 7 96 112 (.asked []),.pub 15,.nilsl 15 (.ints [])]⟩ [.cells 63 97,.cells 63 97,.rows 112]
def za3j:St→Option LR:=L1 189 12 0 zbf9 (.exit 4) zay9 (u5 ze0)
def zs164c:=sub (fb Tryz.f23) [0,1,0,1,1,1,1,1,1,1,1,1,1,1,1]
theorem zbga:zk (zay5).env 0 zs164c za3j :=
 zb5 (A:=zbf8) zay6 fM trivial (k:=z8 zs164c) (by kernel_rfl) rfl (by rintro ⟨x0,x1,x2,x3,x4⟩;kernel_rfl)
def zp3 (a0:za) (a1:Int): Tr (za×(List Int)×Int) :=
 (.bind (zak a0) fun v1 =>
 (.ite (((!v1)||(decide (a1 < a0.Time)))||(decide (a1 > 1099511627776)))
  (.leaf (a0,[],2))
  (.bind (za5 a0) fun v2 =>
  (.guard ((zq5 a0.Set).isSome=true)
  (.guard ((zmg v2.Meter ((zq5 a0.Set).getD default) a1).isSome=true)
  (.bind (zgf a1 ((v2.Queue.length:Nat):Int) 0 (default:za) (⟨i64.wrap (v2.Height+1),a1,v2.Stake,v2.Set,v2.Links,((zmg v2.Meter ((zq5 a0.Set).getD default) a1).getD default),[]⟩:za) v2.Queue) fun v5 =>
  (.bind (ztc v5.2.2.Stake v5.1) fun v6 =>
  (.bind (z9k v6.1) fun v7 =>
  (.bind (zki v5.1 v6.2.1 0 v5.2.1 ({ v5.2.2 with Stake:=v6.1,Set:=v7 })) fun v9 =>
  (.leaf (v9.2.2,v9.1,0)))))))))))
def zbj (a0:za) (a1:Int):=(zp3 a0 a1).run
def zyi:SpecT:=zn 0 (LQ.v (Par.ofLP providerL) (Par.q intP)) 2 [] (u2 zp3) default (LQ.v (Par.ofLP providerL) (LQ.v za7 (Par.q intP))) 3 []
theorem z75:ze Tryz.prog 23 (zyi).spec :=
 sK (A:=⟨[([0,1,0,1,1,1,1,1,1,1,1],za3i),([0,1,0,1,1,1,1,1,1,1,1,1,1,1,1],za3j)],[],[],zay4,[(20,[6600007])]⟩) zay6 fM Tryz.func23 (c:=(fb Tryz.f23)) (by kernel_rfl) (Lc:=0) ⟨zbf7,zbga,trivial⟩ _ _ 12 _ _ _ _ _ _ [.pubB 4,.pub 5] (by rintro ⟨a0,a1⟩;kernel_rfl)
end
