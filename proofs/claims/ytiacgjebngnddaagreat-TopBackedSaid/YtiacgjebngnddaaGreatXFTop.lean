/-
  The functions, each by its tree.
-/
import Derived.Test.YtiacgjebngnddaaGreatXAbC
import Derived.Test.YtiacgjebngnddaaGreatXFBank
import Derived.Test.YtiacgjebngnddaaGreatXFCodec
import Derived.Test.YtiacgjebngnddaaGreatXFCons
import Derived.Test.YtiacgjebngnddaaGreatXFLine
import Derived.Test.YtiacgjebngnddaaGreatXFProv
import Derived.Test.YtiacgjebngnddaaGreatXFRatio
import Derived.Test.YtiacgjebngnddaaGreatXFStakeA
import Derived.Test.YtiacgjebngnddaaGreatXFStakeB
import Derived.Test.YtiacgjebngnddaaGreatXFWld
import Derived.Test.YtiacgjebngnddaaGreatXFacts
namespace Go.Proofs.YtiacgjebngnddaaGreat.Ab
open Go Go.RowKit
open Go.IntKind (i64 u64)
set_option maxRecDepth 100000
set_option linter.unusedVariables false
set_option linter.unusedSimpArgs false
noncomputable section
noncomputable def zaz0:EnvT:=⟨Tryz.prog,zad [(19,zvo),(17,zlo),(38,zno),(11,zfr)]⟩
theorem zaz1:(zaz0).Ok:=zf ⟨zyy,zp6,zt4,zjc,trivial⟩
def zvp  : Tr (Bool) :=
 (.bind (zom) fun v1 =>
 (.bind (zb7 (⟨1,0,0,0,700,false,false⟩:Deed) v1) fun v2 =>
 (.bind (zb7 (⟨5,0,0,0,5,false,false⟩:Deed) v2.2) fun v3 =>
 (.bind (zb7 (⟨6,0,0,0,0,false,false⟩:Deed) v3.2) fun v4 =>
 (.bind (zb7 (⟨4,0,0,0,0,false,false⟩:Deed) v4.2) fun v5 =>
 (.ite ((((v2.1.Code==0)&&(v3.1.N==5))&&(v4.1.Code==0))&&(v5.1.N==1))
  (.bind (zg3 v5.2) fun v6 =>
  (.ite ((true:Bool)&&(v6.1==5))
   (.bind (zal 0 v6.2) fun v7 =>
   (.leaf ((true:Bool)&&(((v7.1.Set.length:Nat):Int)==1))))
   (.ite ((false:Bool))
    .fail
    (.ite ((false:Bool))
     .fail
     (.ite ((false:Bool))
      .fail
      (.ite ((false:Bool))
       .fail
       (.leaf (false:Bool))))))))
  (.ite ((false:Bool))
   .fail
   (.ite ((false:Bool))
    .fail
    (.ite ((false:Bool))
     (.bind (zal 0 v5.2) fun v6 =>
     (.leaf ((true:Bool)&&(((v6.1.Set.length:Nat):Int)==1))))
     (.ite ((false:Bool))
      .fail
      (.ite ((false:Bool))
       .fail
       (.ite ((false:Bool))
        .fail
        (.ite ((false:Bool))
         .fail
         (.leaf (false:Bool)))))))))))))))
def zs4  := (zvp ).run
def z72:=(Par.q boolP)
def z1b:SpecT:=zt 0 LQ.nil 0 [] (fun s=>zvp ) default z72 1 []
theorem z73:zg Tryz.prog 23 (z1b).spec :=
 sK (A:=⟨[],[],[[1,0,1,1]],[[],[1],[1,8],[0],[1,2],[1,2,3],[1,2,3,4],[1,2,3,4,5],[0]],[]⟩) zaz1 fM Tryz.func23 (c:=(fb Tryz.f23)) (by kernel_rfl) (Lc:=0) trivial _ _ 7 _ _ _ _ _ _ [] (by rintro _;kernel_rfl)
def zagn:List (List Nat):=[[0,3],[0,3,8],[0,3,8,10],[0,3,8,31],[0,3,8,11],[0,3,8,11,34,35],[0,3,8,11,34,35,36],[0,3,8,11,12,13,34,35],[0,3,8,11,34,35],[0,3,8,11,34,35],[0,3,8],[0,3,8,14],[0,3,8,14,49],[0,3,8,14],[0,3,8,14,15],[0,3,8,14,15,57],[0,3,8,14,15,59,60,61],[0,3,8,14,15,59,60,61,62],[0,3,8,14,15,17,59,60,61],[0,3,8,14,15,17,18,59,60,61],[0,3,8,14,15,17,18,59,60,61,90,91,92],[0,3,8,14,15,17,18,59,60,61,90,91,92,93],[0,3,8,14,15,17,18,20,59,60,61,90,91,92],[0,3,8,14,15,17,18,20,59,60,61,90,91,92,107],[0,3,8,14,15,17,18,59,60,61,90,91,92],[0,3,8,14,15,17,18,59,60,61,90,91,92],[0,3,8,14,15,59,60,61,117],[7],[0,3,8,14,15,59,60,61],[7]]
noncomputable def zago:EnvT:=⟨Tryz.prog,zad [(10,zjn),(11,zfr)]⟩
theorem zagp:(zago).Ok:=zf ⟨zq8,zjc,trivial⟩
def za5 (x0:(A6 zh)) (x1:Int) (x2:Wld) (x3:(List (Int×(A6 Int)))) (x4:za) (x5:(A6 Int)):Tr (((A6 zh)×Int×Wld×(List (Int×(A6 Int)))×za×(A6 Int))⊕(Wld×(List (Int×(A6 Int)))×za×(A6 Int))) :=
 (.ite (decide (x1 < 6))
  (.guard ((0:Int)≤x1∧(x1:Int) < 6)
  (.guard ((0:Int)≤x1∧(x1:Int) < 6)
  (.leaf (.inl (x0,i64.wrap (x1+1),x2,x3,x4,(x5.set x1 (A6.get ⟨x0.x0.Lost,x0.x1.Lost,x0.x2.Lost,x0.x3.Lost,x0.x4.Lost,x0.x5.Lost⟩ x1)))))))
  (.leaf (.inr (x2,x3,x4,x5))))
def zgf (x0:(A6 zh)) (x1:Int) (x2:Wld) (x3:(List (Int×(A6 Int)))) (x4:za) (x5:(A6 Int)):=zde (fun s:(A6 zh)×Int×Wld×(List (Int×(A6 Int)))×za×(A6 Int)=>(za5 s.1 s.2.1 s.2.2.1 s.2.2.2.1 s.2.2.2.2.1 s.2.2.2.2.2).run) (x0,x1,x2,x3,x4,x5)
def zatc:Ann:=⟨[],[],[],zagn,[]⟩
def zatd:=EndD.mk (LQ.kp 0 0 (LQ.kp 1 0 (LQ.kp 3 0 (LQ.kp 4 0 (LQ.seq (Par.q (Par.ofLP (a6L zie))) (LQ.v intP (LQ.seq (LP.q zpo) (LQ.k (LQ.c (.own 2)) (LQ.v zkp (LQ.seq (LP.q providerL) (LP.q (a6L (LP.one intP))))))))))))) ⟨[0,3,8,11,34,35],[]⟩ [.cells 99 159,.cells 80 1,.maps,.cells 58 97,.cells 39 6]
def zajy:=EndD.mk (LQ.kp 0 0 (LQ.kp 1 0 (LQ.kp 3 0 (LQ.kp 4 0 (LQ.seq (LP.q zpo) (LQ.k (LQ.c (.own 2)) (LQ.v zkp (LQ.seq (LP.q providerL) (LP.q (a6L (LP.one intP))))))))))) ⟨[0,3,8,11],[]⟩ [.cells 99 159,.cells 80 1,.maps,.cells 58 97,.cells 39 6]
def zaml:St→Option LR:=L1 119 10 3 zatd (.exit 0) zajy (u6 za5)
def zs127a:=sub (fb Tryz.f15) [0,1,0,1,0,1,1,0,1,1]
theorem zate:zq (zago).env 3 zs127a zaml :=
 zgy (A:=zatc) zagp fM trivial (k:=zca zs127a) (by kernel_rfl) rfl (by rintro ⟨x0,x1,x2,x3,x4,x5⟩;kernel_rfl)
def zbx (x0:Int) (x1:Int) (x2:(List Power)) (x3:Int) (x4:Int) (x5:(List Wait)) (x6:Int) (x7:Int) (x8:Wld) (x9:(List (Int×(A6 Int)))) (x10:za) (x11:zc) (x12:Power):Tr ((Int×Int×(List Power)×Int×Int×(List Wait)×Int×Int×Wld×(List (Int×(A6 Int)))×za×zc×Power)⊕(Int×Int×(List Power)×Int×Int×Wld×(List (Int×(A6 Int)))×za×zc×Power)) :=
 (.ite (decide (x7 < x6))
  (.guard ((0:Int)≤x7∧x7 < ((Sl.len (.waits x5):Nat):Int))
  (.ite (((x5.getD x7.toNat default).V==x12.V)&&(decide ((x5.getD x7.toNat default).Height > x11.Id)))
   (.leaf (.inl (x0,i64.wrap (x1+(x5.getD x7.toNat default).Amount),x2,x3,x4,x5,x6,i64.wrap (x7+1),x8,x9,x10,x11,x12)))
   (.leaf (.inl (x0,x1,x2,x3,x4,x5,x6,i64.wrap (x7+1),x8,x9,x10,x11,x12)))))
  (.leaf (.inr (x0,x1,x2,x3,x4,x8,x9,x10,x11,x12))))
def zbi (x0:Int) (x1:Int) (x2:(List Power)) (x3:Int) (x4:Int) (x5:(List Wait)) (x6:Int) (x7:Int) (x8:Wld) (x9:(List (Int×(A6 Int)))) (x10:za) (x11:zc) (x12:Power):=zde (fun s:Int×Int×(List Power)×Int×Int×(List Wait)×Int×Int×Wld×(List (Int×(A6 Int)))×za×zc×Power=>(zbx s.1 s.2.1 s.2.2.1 s.2.2.2.1 s.2.2.2.2.1 s.2.2.2.2.2.1 s.2.2.2.2.2.2.1 s.2.2.2.2.2.2.2.1 s.2.2.2.2.2.2.2.2.1 s.2.2.2.2.2.2.2.2.2.1 s.2.2.2.2.2.2.2.2.2.2.1 s.2.2.2.2.2.2.2.2.2.2.2.1 s.2.2.2.2.2.2.2.2.2.2.2.2).run) (x0,x1,x2,x3,x4,x5,x6,x7,x8,x9,x10,x11,x12)
def zg5 (x0:Int) (x1:(List Power)) (x2:Int) (x3:Int) (x4:Wld) (x5:(List (Int×(A6 Int)))) (x6:za) (x7:zc):Tr ((Int×(List Power)×Int×Int×Wld×(List (Int×(A6 Int)))×za×zc)⊕((Bool×Wld×(List (Int×(A6 Int))))⊕(Int×Wld×(List (Int×(A6 Int)))×za))) :=
 (.ite (decide (x3 < x2))
  (.guard ((0:Int)≤x3∧x3 < ((Sl.len (.powers x1):Nat):Int))
  (.guard ((0:Int)≤(x1.getD x3.toNat default).V∧((x1.getD x3.toNat default).V:Int) < 6)
  (.guard ((0:Int)≤(x1.getD x3.toNat default).V∧((x1.getD x3.toNat default).V:Int) < 6)
  (.guard ((0:Int)≤(x1.getD x3.toNat default).V∧((x1.getD x3.toNat default).V:Int) < 6)
  (.bind (zbi x0 (i64.wrap ((i64.wrap ((x6.Stake.Validators.Tokens.get (x1.getD x3.toNat default).V)+(x6.Stake.Validators.Lost.get (x1.getD x3.toNat default).V))) - ((z3s default x5 x7.Id).get (x1.getD x3.toNat default).V))) x1 x2 x3 x6.Stake.Waits ((x6.Stake.Waits.length:Nat):Int) 0 x4 x5 x6 x7 (x1.getD x3.toNat default)) fun v4 =>
  (.ite (decide (v4.2.1 < (i64.wrap (v4.2.2.2.2.2.2.2.2.2.N*100))))
   (.leaf (.inr (.inl (false,v4.2.2.2.2.2.1,v4.2.2.2.2.2.2.1))))
   (.leaf (.inl (v4.1,v4.2.2.1,v4.2.2.2.1,i64.wrap (v4.2.2.2.2.1+1),v4.2.2.2.2.2.1,v4.2.2.2.2.2.2.1,v4.2.2.2.2.2.2.2.1,v4.2.2.2.2.2.2.2.2.1)))))))))
  (.leaf (.inr (.inr (x0,x4,x5,x6)))))
def zcj (x0:Int) (x1:(List Power)) (x2:Int) (x3:Int) (x4:Wld) (x5:(List (Int×(A6 Int)))) (x6:za) (x7:zc):=zde (fun s:Int×(List Power)×Int×Int×Wld×(List (Int×(A6 Int)))×za×zc=>(zg5 s.1 s.2.1 s.2.2.1 s.2.2.2.1 s.2.2.2.2.1 s.2.2.2.2.2.1 s.2.2.2.2.2.2.1 s.2.2.2.2.2.2.2).run) (x0,x1,x2,x3,x4,x5,x6,x7)
def zcw (x0:Int) (x1:Wld) (x2:(List (Int×(A6 Int)))) (x3:za):Tr ((Int×Wld×(List (Int×(A6 Int)))×za)⊕((Bool×Wld×(List (Int×(A6 Int))))⊕(Wld×(List (Int×(A6 Int)))))) :=
 (.ite (decide (x0 < 2))
  (.bind (zal x0 x1) fun v3 =>
  (.ite (!v3.1.On)
   (.leaf (.inl (i64.wrap (x0+1),v3.2,x2,x3)))
   (.two (zcj x0 v3.1.Set ((v3.1.Set.length:Nat):Int) 0 v3.2 x2 x3 v3.1) (fun v5 =>
    (.leaf (.inr (.inl (v5.1,v5.2.1,v5.2.2))))) (fun v6 =>
    (.leaf (.inl (i64.wrap (v6.1+1),v6.2.1,v6.2.2.1,v6.2.2.2)))))))
  (.leaf (.inr (.inr (x1,x2)))))
def zdz (x0:Int) (x1:Wld) (x2:(List (Int×(A6 Int)))) (x3:za):=zde (fun s:Int×Wld×(List (Int×(A6 Int)))×za=>(zcw s.1 s.2.1 s.2.2.1 s.2.2.2).run) (x0,x1,x2,x3)
def zlv (x0:Int) (x1:Int) (x2:(List Power)) (x3:Int) (x4:Int) (x5:(List Wait)) (x6:Int) (x7:Int) (x8:Wld) (x9:(List (Int×(A6 Int)))) (x10:za) (x11:zc) (x12:Power):Tr ((Int×Int×(List Power)×Int×Int×(List Wait)×Int×Int×Wld×(List (Int×(A6 Int)))×za×zc×Power)⊕(Int×Int×(List Power)×Int×Int×Wld×(List (Int×(A6 Int)))×za×zc×Power)) :=
 (.ite (decide (x7 < x6))
  (.guard ((0:Int)≤x7∧x7 < ((Sl.len (.waits x5):Nat):Int))
  (.ite (((x5.getD x7.toNat default).V==x12.V)&&(decide ((x5.getD x7.toNat default).Height > x11.Id)))
   (.leaf (.inl (x0,i64.wrap (x1+(x5.getD x7.toNat default).Amount),x2,x3,x4,x5,x6,i64.wrap (x7+1),x8,x9,x10,x11,x12)))
   (.leaf (.inl (x0,x1,x2,x3,x4,x5,x6,i64.wrap (x7+1),x8,x9,x10,x11,x12)))))
  (.leaf (.inr (x0,x1,x2,x3,x4,x8,x9,x10,x11,x12))))
def zs5 (x0:Int) (x1:Int) (x2:(List Power)) (x3:Int) (x4:Int) (x5:(List Wait)) (x6:Int) (x7:Int) (x8:Wld) (x9:(List (Int×(A6 Int)))) (x10:za) (x11:zc) (x12:Power):=zde (fun s:Int×Int×(List Power)×Int×Int×(List Wait)×Int×Int×Wld×(List (Int×(A6 Int)))×za×zc×Power=>(zlv s.1 s.2.1 s.2.2.1 s.2.2.2.1 s.2.2.2.2.1 s.2.2.2.2.2.1 s.2.2.2.2.2.2.1 s.2.2.2.2.2.2.2.1 s.2.2.2.2.2.2.2.2.1 s.2.2.2.2.2.2.2.2.2.1 s.2.2.2.2.2.2.2.2.2.2.1 s.2.2.2.2.2.2.2.2.2.2.2.1 s.2.2.2.2.2.2.2.2.2.2.2.2).run) (x0,x1,x2,x3,x4,x5,x6,x7,x8,x9,x10,x11,x12)
def zatf:Ann:=⟨[],[],[],zagn,[]⟩
def zatg:=EndD.mk (LQ.kp 0 0 (LQ.kp 1 0 (LQ.kp 3 0 (LQ.v intP (LQ.kp 4 0 (LQ.kp 5 0 (LQ.v intP (LQ.v zo (LQ.v intP (LQ.v intP (LQ.v zjl (LQ.v intP (LQ.v intP (LQ.seq (LP.q zpo) (LQ.k (LQ.c (.own 2)) (LQ.v zkp (LQ.seq (LP.q providerL) (LQ.seq (LP.q zy) (LP.q zal2))))))))))))))))))) ⟨[0,3,8,14,15,17,18,59,60,61,90,91,92],[.pub 59,.nilsl 59 (.powers []),.pub 90,.nilsl 90 (.waits [])]⟩ [.cells 99 159,.cells 80 1,.maps,.cells 58 97,.cells 64 22,.cells 83 2]
def zajz:=EndD.mk (LQ.kp 0 0 (LQ.kp 1 0 (LQ.kp 3 0 (LQ.v intP (LQ.kp 4 0 (LQ.kp 5 0 (LQ.v intP (LQ.v zo (LQ.v intP (LQ.v intP (LQ.seq (LP.q zpo) (LQ.k (LQ.c (.own 2)) (LQ.v zkp (LQ.seq (LP.q providerL) (LQ.seq (LP.q zy) (LP.q zal2)))))))))))))))) ⟨[0,3,8,14,15,17,18,59,60,61],[.pub 59,.nilsl 59 (.powers [])]⟩ [.cells 99 159,.cells 80 1,.maps,.cells 58 97,.cells 64 22,.cells 83 2]
def zamm:St→Option LR:=L1 119 10 3 zatg (.exit 6) zajz (u13 zlv)
def zs127e:=sub (fb Tryz.f15) [0,1,0,1,1,0,0,1,1,0,0,1,1,1,0,0,1,0,0,1,0,1,1,1]
theorem zath:zq (zago).env 3 zs127e zamm :=
 zgy (A:=zatf) zagp fM trivial (k:=zca zs127e) (by kernel_rfl) rfl (by rintro ⟨x0,x1,x2,x3,x4,x5,x6,x7,x8,x9,x10,x11,x12⟩;kernel_rfl)
def zlw (x0:Int) (x1:(List Power)) (x2:Int) (x3:Int) (x4:Wld) (x5:(List (Int×(A6 Int)))) (x6:za) (x7:zc):Tr ((Int×(List Power)×Int×Int×Wld×(List (Int×(A6 Int)))×za×zc)⊕((Bool×Wld×(List (Int×(A6 Int))))⊕(Int×Wld×(List (Int×(A6 Int)))×za))) :=
 (.ite (decide (x3 < x2))
  (.guard ((0:Int)≤x3∧x3 < ((Sl.len (.powers x1):Nat):Int))
  (.guard ((0:Int)≤(x1.getD x3.toNat default).V∧((x1.getD x3.toNat default).V:Int) < 6)
  (.guard ((0:Int)≤(x1.getD x3.toNat default).V∧((x1.getD x3.toNat default).V:Int) < 6)
  (.guard ((0:Int)≤(x1.getD x3.toNat default).V∧((x1.getD x3.toNat default).V:Int) < 6)
  (.bind (zs5 x0 (i64.wrap ((i64.wrap ((x6.Stake.Validators.Tokens.get (x1.getD x3.toNat default).V)+(x6.Stake.Validators.Lost.get (x1.getD x3.toNat default).V))) - ((z3s default x5 x7.Id).get (x1.getD x3.toNat default).V))) x1 x2 x3 x6.Stake.Waits ((x6.Stake.Waits.length:Nat):Int) 0 x4 x5 x6 x7 (x1.getD x3.toNat default)) fun v10 =>
  (.ite (decide (v10.2.1 < (i64.wrap (v10.2.2.2.2.2.2.2.2.2.N*100))))
   (.leaf (.inr (.inl (false,v10.2.2.2.2.2.1,v10.2.2.2.2.2.2.1))))
   (.leaf (.inl (v10.1,v10.2.2.1,v10.2.2.2.1,i64.wrap (v10.2.2.2.2.1+1),v10.2.2.2.2.2.1,v10.2.2.2.2.2.2.1,v10.2.2.2.2.2.2.2.1,v10.2.2.2.2.2.2.2.2.1)))))))))
  (.leaf (.inr (.inr (x0,x4,x5,x6)))))
def zs6 (x0:Int) (x1:(List Power)) (x2:Int) (x3:Int) (x4:Wld) (x5:(List (Int×(A6 Int)))) (x6:za) (x7:zc):=zde (fun s:Int×(List Power)×Int×Int×Wld×(List (Int×(A6 Int)))×za×zc=>(zlw s.1 s.2.1 s.2.2.1 s.2.2.2.1 s.2.2.2.2.1 s.2.2.2.2.2.1 s.2.2.2.2.2.2.1 s.2.2.2.2.2.2.2).run) (x0,x1,x2,x3,x4,x5,x6,x7)
def zati:Ann:=⟨[([0,1,0,1,1,0,0,1,1,0,0,1,1,1,0,0,1,0,0,1,0,1,1,1],zamm)],[],[],zagn,[]⟩
def zatj:=EndD.mk (LQ.kp 0 0 (LQ.kp 1 0 (LQ.kp 3 0 (LQ.v intP (LQ.kp 4 0 (LQ.v zo (LQ.v intP (LQ.v intP (LQ.seq (LP.q zpo) (LQ.k (LQ.c (.own 2)) (LQ.v zkp (LQ.seq (LP.q providerL) (LP.q zy))))))))))))) ⟨[0,3,8,14,15,59,60,61],[.pub 59,.nilsl 59 (.powers [])]⟩ [.cells 99 159,.cells 80 1,.maps,.cells 58 97,.cells 64 22]
def zaj0:=EndD.mk (LQ.v boolP (LQ.seq (LP.q zpo) (LQ.k (LQ.c (.own 2)) (Par.q zkp)))) ⟨[7],[]⟩ [.cells 99 159,.cells 80 1,.maps]
def zaj1:=EndD.mk (LQ.kp 0 0 (LQ.kp 1 0 (LQ.kp 3 0 (LQ.v intP (LQ.seq (LP.q zpo) (LQ.k (LQ.c (.own 2)) (LQ.v zkp (LP.q providerL)))))))) ⟨[0,3,8,14],[]⟩ [.cells 99 159,.cells 80 1,.maps,.cells 58 97]
def zamn:St→Option LR:=L2 119 10 3 zatj .ret zaj0 (.exit 4) zaj1 (u8 zlw)
def zs127f:=sub (fb Tryz.f15) [0,1,1,1,0,0,1,0,0,1,0,1,1,1]
theorem zatk:zq (zago).env 3 zs127f zamn :=
 zou (A:=zati) zagp fM ⟨zath,trivial⟩ (k:=zca zs127f) (by kernel_rfl) rfl rfl (by rintro ⟨x0,x1,x2,x3,x4,x5,x6,x7⟩;kernel_rfl)
def zlx (x0:Int) (x1:Wld) (x2:(List (Int×(A6 Int)))) (x3:za):Tr ((Int×Wld×(List (Int×(A6 Int)))×za)⊕((Bool×Wld×(List (Int×(A6 Int))))⊕(Wld×(List (Int×(A6 Int)))))) :=
 (.ite (decide (x0 < 2))
  (.bind (zal x0 x1) fun v9 =>
  (.ite (!v9.1.On)
   (.leaf (.inl (i64.wrap (x0+1),v9.2,x2,x3)))
   (.two (zs6 x0 v9.1.Set ((v9.1.Set.length:Nat):Int) 0 v9.2 x2 x3 v9.1) (fun v11 =>
    (.leaf (.inr (.inl (v11.1,v11.2.1,v11.2.2))))) (fun v12 =>
    (.leaf (.inl (i64.wrap (v12.1+1),v12.2.1,v12.2.2.1,v12.2.2.2)))))))
  (.leaf (.inr (.inr (x1,x2)))))
def zk4 (x0:Int) (x1:Wld) (x2:(List (Int×(A6 Int)))) (x3:za):=zde (fun s:Int×Wld×(List (Int×(A6 Int)))×za=>(zlx s.1 s.2.1 s.2.2.1 s.2.2.2).run) (x0,x1,x2,x3)
def zatl:Ann:=⟨[([0,1,1,1,0,0,1,0,0,1,0,1,1,1],zamn)],[],[],zagn,[]⟩
def zatm:=EndD.mk (LQ.kp 0 0 (LQ.kp 1 0 (LQ.kp 3 0 (LQ.v intP (LQ.seq (LP.q zpo) (LQ.k (LQ.c (.own 2)) (LQ.v zkp (LP.q providerL)))))))) ⟨[0,3,8,14],[]⟩ [.cells 99 159,.cells 80 1,.maps,.cells 58 97]
def zaj2:=EndD.mk (LQ.v boolP (LQ.seq (LP.q zpo) (LQ.k (LQ.c (.own 2)) (Par.q zkp)))) ⟨[7],[]⟩ [.cells 99 159,.cells 80 1,.maps]
def zaj3:=EndD.mk (LQ.seq (LP.q zpo) (LQ.k (LQ.c (.own 2)) (Par.q zkp))) ⟨[],[]⟩ [.cells 99 159,.cells 80 1,.maps]
def zamo:St→Option LR:=L2 119 10 3 zatm .ret zaj2 (.exit 2) zaj3 (u4 zlx)
def zs127g:=sub (fb Tryz.f15) [0,1,0,1,1,1]
theorem zatn:zq (zago).env 3 zs127g zamo :=
 zou (A:=zatl) zagp fM ⟨zatk,trivial⟩ (k:=zca zs127g) (by kernel_rfl) rfl rfl (by rintro ⟨x0,x1,x2,x3⟩;kernel_rfl)
def zj7 (a0:Deed) (a1:Reply) (a2:Wld) (a3:(List (Int×(A6 Int)))):Tr (Bool×Wld×(List (Int×(A6 Int)))) :=
 (.bind (zcy a2) fun v1 =>
 (.ite (!(zud a3 v1.1.Height))
  (.bind (zgf (⟨(⟨v1.1.Stake.Validators.Tokens.x0,v1.1.Stake.Validators.Shares.x0,v1.1.Stake.Validators.Lost.x0,v1.1.Stake.Validators.Jailed.x0,v1.1.Stake.Validators.Dead.x0⟩:zh),(⟨v1.1.Stake.Validators.Tokens.x1,v1.1.Stake.Validators.Shares.x1,v1.1.Stake.Validators.Lost.x1,v1.1.Stake.Validators.Jailed.x1,v1.1.Stake.Validators.Dead.x1⟩:zh),(⟨v1.1.Stake.Validators.Tokens.x2,v1.1.Stake.Validators.Shares.x2,v1.1.Stake.Validators.Lost.x2,v1.1.Stake.Validators.Jailed.x2,v1.1.Stake.Validators.Dead.x2⟩:zh),(⟨v1.1.Stake.Validators.Tokens.x3,v1.1.Stake.Validators.Shares.x3,v1.1.Stake.Validators.Lost.x3,v1.1.Stake.Validators.Jailed.x3,v1.1.Stake.Validators.Dead.x3⟩:zh),(⟨v1.1.Stake.Validators.Tokens.x4,v1.1.Stake.Validators.Shares.x4,v1.1.Stake.Validators.Lost.x4,v1.1.Stake.Validators.Jailed.x4,v1.1.Stake.Validators.Dead.x4⟩:zh),(⟨v1.1.Stake.Validators.Tokens.x5,v1.1.Stake.Validators.Shares.x5,v1.1.Stake.Validators.Lost.x5,v1.1.Stake.Validators.Jailed.x5,v1.1.Stake.Validators.Dead.x5⟩:zh)⟩:(A6 zh)) 0 v1.2 a3 v1.1 (⟨0,0,0,0,0,0⟩:(A6 Int))) fun v2 =>
  (.two (zdz 0 v2.1 (z0n v2.2.2.1.Height v2.2.2.2 v2.2.1) v2.2.2.1) (fun v7 =>
   (.leaf (v7.1,v7.2.1,v7.2.2))) (fun v8 =>
   (.leaf (true,v8.1,v8.2)))))
  (.two (zk4 0 v1.2 a3 v1.1) (fun v13 =>
   (.leaf (v13.1,v13.2.1,v13.2.2))) (fun v14 =>
   (.leaf (true,v14.1,v14.2))))))
def za7 (a0:Deed) (a1:Reply) (a2:Wld) (a3:(List (Int×(A6 Int)))):=(zj7 a0 a1 a2 a3).run
def zw8:=(LQ.v boolP (LQ.seq (LP.q zpo) (LQ.k (LQ.c (.own 2)) (Par.q zkp))))
def zp7:SpecT:=zt 3 (LQ.kp 0 0 (LQ.v (Par.ofLP deedL) (LQ.v (Par.ofLP zyl) (LQ.kp 1 0 (LQ.seq (LP.q zpo) (LQ.k (LQ.c (.own 2)) (Par.q zkp))))))) 4 [.cells 99 159,.cells 80 1,.maps] (u4 zj7) default zw8 1 [.cells 99 159,.cells 80 1,.maps]
theorem zw9:zg Tryz.prog 15 (zp7).spec :=
 sK (A:=⟨[([0,1,0,1,0,1,1,0,1,1],zaml),([0,1,0,1,1,1],zamo)],[],[],zagn,[]⟩) zagp fM Tryz.func15 (c:=(fb Tryz.f15)) (by kernel_rfl) (Lc:=3) ⟨zate,zatn,trivial⟩ _ _ 10 _ _ _ _ _ _ [.pubN 0] (by rintro ⟨a0,a1,a2,a3⟩;kernel_rfl)
def zato:List (List Nat):=[[0,1],[0,1,10],[4,5],[0,1,6],[0,1,6,7],[0,1,6,7,19],[0,1,6,7],[0,1,6,7,8],[0,1,6,7,36],[4,5],[4,5]]
noncomputable def zatp:EnvT:=⟨Tryz.prog,zad [(23,z1b),(19,zvo),(17,zlo),(15,zp7)]⟩
theorem zatq:(zatp).Ok:=zf ⟨z73,zyy,zp6,zw9,trivial⟩
def zd0 (x0:(List Deed)) (x1:Int) (x2:(List (Int×(A6 Int)))) (x3:Wld):Tr (((List Deed)×Int×(List (Int×(A6 Int)))×Wld)⊕((Bool×(List (Int×(A6 Int)))×Wld)⊕((List (Int×(A6 Int)))×Wld))) :=
 (.ite ((decide (x1 < ((x0.length:Nat):Int)))&&(decide (x1 < 120)))
  (.guard ((0:Int)≤x1∧x1 < ((Sl.len (.deeds x0):Nat):Int))
  (.bind (zb7 (x0.getD x1.toNat default) x3) fun v3 =>
  (.guard ((0:Int)≤x1∧x1 < ((Sl.len (.deeds x0):Nat):Int))
  (.guard ((za7 (x0.getD x1.toNat default) v3.1 v3.2 x2).isSome=true)
  (.ite (!((za7 (x0.getD x1.toNat default) v3.1 v3.2 x2).getD default).1)
   (.leaf (.inr (.inl (false,((za7 (x0.getD x1.toNat default) v3.1 v3.2 x2).getD default).2.2,((za7 (x0.getD x1.toNat default) v3.1 v3.2 x2).getD default).2.1))))
   (.leaf (.inl (x0,i64.wrap (x1+1),((za7 (x0.getD x1.toNat default) v3.1 v3.2 x2).getD default).2.2,((za7 (x0.getD x1.toNat default) v3.1 v3.2 x2).getD default).2.1))))))))
  (.leaf (.inr (.inr (x2,x3)))))
def zib (x0:(List Deed)) (x1:Int) (x2:(List (Int×(A6 Int)))) (x3:Wld):=zde (fun s:(List Deed)×Int×(List (Int×(A6 Int)))×Wld=>(zd0 s.1 s.2.1 s.2.2.1 s.2.2.2).run) (x0,x1,x2,x3)
def zatr:Ann:=⟨[],[],[],zato,[]⟩
def zats:=EndD.mk (LQ.v deedsP (LQ.k (LQ.c (.fn 15 [.ptr 0 0])) (LQ.kp 2 0 (LQ.v intP (LQ.k (LQ.c (.own 1)) (LQ.v zkp (LP.q zpo))))))) ⟨[0,1,6,7],[.pub 0,.nilsl 0 (.deeds [])]⟩ [.cells 80 1,.maps,.cells 99 159]
def zaj4:=EndD.mk (LQ.kp 2 0 (LQ.v boolP (LQ.k (LQ.c (.own 1)) (LQ.v zkp (LP.q zpo))))) ⟨[4,5],[.pubB 4]⟩ [.cells 80 1,.maps,.cells 99 159]
def zaj5:=EndD.mk (LQ.kp 2 0 (LQ.k (LQ.c (.own 1)) (LQ.v zkp (LP.q zpo)))) ⟨[6],[]⟩ [.cells 80 1,.maps,.cells 99 159]
def zamp:St→Option LR:=L2 39 6 2 zats .ret zaj4 (.exit 0) zaj5 (u4 zd0)
def zs128a:=sub (fb Tryz.f8) [0,1,0,1,1,1]
theorem zatt:zq (zatp).env 2 zs128a zamp :=
 zou (A:=zatr) zatq fM trivial (k:=zca zs128a) (by kernel_rfl) rfl rfl (by rintro ⟨x0,x1,x2,x3⟩;kernel_rfl)
def znt (a0:(List Deed)) (a1:(List (Int×(A6 Int)))):Tr (Bool×(List (Int×(A6 Int)))×Wld) :=
 (.bind (zs4) fun v1 =>
 (.ite (!v1)
  .fail
  (.bind (zom) fun v2 =>
  (.two (zib a0 0 a1 v2) (fun v4 =>
   (.leaf (v4.1,v4.2.1,v4.2.2))) (fun v5 =>
   (.leaf (true,v5.1,v5.2)))))))
def zrv (a0:(List Deed)) (a1:(List (Int×(A6 Int)))):=(znt a0 a1).run
def zzl:=(LQ.kp 2 0 (LQ.v boolP (LQ.k (LQ.c (.own 1)) (LQ.v zkp (LP.q zpo)))))
def zs7:SpecT:=zt 2 (LQ.v deedsP (LQ.k (LQ.c (.fn 15 [.ptr 0 0])) (LQ.k (LQ.c (.own 1)) (Par.q zkp)))) 2 [.cells 80 1,.maps] (u2 znt) default zzl 2 [.cells 80 1,.maps,.cells 99 159]
theorem zzm:zg Tryz.prog 8 (zs7).spec :=
 sK (A:=⟨[([0,1,0,1,1,1],zamp)],[],[],zato,[]⟩) zatq fM Tryz.func8 (c:=(fb Tryz.f8)) (by kernel_rfl) (Lc:=2) ⟨zatt,trivial⟩ _ _ 6 _ _ _ _ _ _ [.pubB 4] (by rintro ⟨a0,a1⟩;kernel_rfl)
noncomputable def zaz2:EnvT:=⟨Tryz.prog,zad [(8,zs7)]⟩
theorem zaz3:(zaz2).Ok:=zf ⟨zzm,trivial⟩
def znu (a0:(List Deed)): Tr (Bool) :=
 (.bind (zrv a0 []) fun v1 =>
 (.leaf v1.1))
def zht (a0:(List Deed)):=(znu a0).run
def qr_top_TopBacked:=(Par.q boolP)
def z1c:SpecT:=zt 0 (Par.q deedsP) 1 [] znu default qr_top_TopBacked 1 []
theorem zzn:zg Tryz.prog 5 (z1c).spec :=
 sK (A:=⟨[],[],[],[[0],[0,3],[5],[2]],[]⟩) zaz3 fM Tryz.func5 (c:=(fb Tryz.f5)) (by kernel_rfl) (Lc:=0) trivial _ _ 5 _ _ _ _ _ _ [] (by rintro a0;kernel_rfl)
end
