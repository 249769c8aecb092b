/-
  The functions, each by its tree.
-/
import Derived.Test.YtiacgjebngnddaaGreatXAbC
import Derived.Test.YtiacgjebngnddaaGreatXAbIter2
import Derived.Test.YtiacgjebngnddaaGreatXFBank
import Derived.Test.YtiacgjebngnddaaGreatXFCodec
import Derived.Test.YtiacgjebngnddaaGreatXFCons
import Derived.Test.YtiacgjebngnddaaGreatXFLine
import Derived.Test.YtiacgjebngnddaaGreatXFProv
import Derived.Test.YtiacgjebngnddaaGreatXFRatio
import Derived.Test.YtiacgjebngnddaaGreatXFStakeA
import Derived.Test.YtiacgjebngnddaaGreatXFStakeB
import Derived.Test.YtiacgjebngnddaaGreatXFWld
import Derived.Test.YtiacgjebngnddaaGreatXFacts
namespace Go.Proofs.YtiacgjebngnddaaGreat.Ab
open Go Go.RowKit
open Go.IntKind (i64 u64)
set_option maxRecDepth 100000
set_option linter.unusedVariables false
set_option linter.unusedSimpArgs false
noncomputable section
noncomputable def zaz3:EnvT:=⟨Tryz.prog,zad [(19,zvt),(17,zlv),(38,zns),(11,zft)]⟩
theorem zaz4:(zaz3).Ok:=ze ⟨zyx,zp6,zt6,zje,trivial⟩
def zvu  : Tr (Bool) :=
 (.bind (zoo) fun v1 =>
 (.bind (zb8 (⟨1,0,0,0,700,false,false⟩:Deed) v1) fun v2 =>
 (.bind (zb8 (⟨5,0,0,0,5,false,false⟩:Deed) v2.2) fun v3 =>
 (.bind (zb8 (⟨6,0,0,0,0,false,false⟩:Deed) v3.2) fun v4 =>
 (.bind (zb8 (⟨4,0,0,0,0,false,false⟩:Deed) v4.2) fun v5 =>
 (.ite ((((v2.1.Code==0)&&(v3.1.N==5))&&(v4.1.Code==0))&&(v5.1.N==1))
  (.bind (zg5 v5.2) fun v6 =>
  (.ite ((true:Bool)&&(v6.1==5))
   (.bind (zay 0 v6.2) fun v7 =>
   (.leaf ((true:Bool)&&(((v7.1.Set.length:Nat):Int)==1))))
   (.ite ((false:Bool))
    .fail
    (.ite ((false:Bool))
     .fail
     (.ite ((false:Bool))
      .fail
      (.ite ((false:Bool))
       .fail
       (.leaf (false:Bool))))))))
  (.ite ((false:Bool))
   .fail
   (.ite ((false:Bool))
    .fail
    (.ite ((false:Bool))
     (.bind (zay 0 v5.2) fun v6 =>
     (.leaf ((true:Bool)&&(((v6.1.Set.length:Nat):Int)==1))))
     (.ite ((false:Bool))
      .fail
      (.ite ((false:Bool))
       .fail
       (.ite ((false:Bool))
        .fail
        (.ite ((false:Bool))
         .fail
         (.leaf (false:Bool)))))))))))))))
def zs6  := (zvu ).run
def z7v:=(Par.q boolP)
def z1c:SpecT:=zt 0 LQ.nil 0 [] (fun s=>zvu ) default z7v 1 []
theorem z7w:zf Tryz.prog 23 (z1c).spec :=
 sK (A:=⟨[],[],[[1,0,1,1]],[[],[1],[1,8],[0],[1,2],[1,2,3],[1,2,3,4],[1,2,3,4,5],[0]],[]⟩) zaz4 fM Tryz.func23 (c:=(fb Tryz.f23)) (by kernel_rfl) (Lc:=0) trivial _ _ 7 _ _ _ _ _ _ [] (by rintro _;kernel_rfl)
def zaac:List (List Nat):=[[0,3,4,5,7],[0,3,4,5,7,10],[0,3,4,5,7,10,31,32],[0,3,4,5,7,10,31,32,33],[0,3,4,5,7,10,11,12,31,32],[0,3,4,5,7,10,11,31,32],[0,3,4,5,7,10,11,13,31,32],[0,3,4,5,7,10,11,13,14,31,32],[0,3,4,5,7,10,11,13,14,31,32,59],[0,3,4,5,7,10,11,13,14,31,32],[0,3,4,5,7,10,11,13,14,15,16,31,32],[0,3,4,5,7,10,11,13,14,15,31,32,77],[0,3,4,5,7,10,11,13,14,31,32],[0,3,4,5,7,10,31,32],[3,4,5,7,10,17],[3,4,5,7,10,17,90,91,92],[3,4,5,7,10,17,90,91,92,93],[3,4,5,7,10,17,19,90,91,92],[3,4,5,7,10,17,90,91,92],[3,4,5,7,10,17,90,91,92],[3,4,5,7,10,17,101],[3,4,5,7,10,17,101,103],[3,4,5,7,10,17,20,21,101],[3,4,5,7,10,17,20,21,101,109],[3,4,5,7,10,17,20,21,101,119],[9],[3,4,5,7,10,17,20,101,121,122],[3,4,5,7,10,17,20,101,121,122,123],[3,4,5,7,10,17,20,22,23,101,121,122],[3,4,5,7,10,17,20,101,121,122,136],[9],[3,4,5,7,10,17,20,101,121,122],[3,4,5,7,10,17,101],[5,142,143,144],[5,142,143,144,145],[5,25,142,143,144],[5,25,27,142,143,144],[5,25,142,143,144,156],[5,142,143,144],[5,142,143,144],[9]]
noncomputable def zaad:EnvT:=⟨Tryz.prog,zad [(10,zjp),(11,zft),(14,zko)]⟩
theorem zaae:(zaad).Ok:=ze ⟨zrc,zje,zm6,trivial⟩
def zcr (x0 x1:Int) (x2:Links) (x3:Int) (x4:Wld) (x5:(A2 Bool)) (x6:(A2 Int)) (x7:(List (Int×Wait))) (x8:Deed) (x9:za) (x10:zgz): Tr ((Int×Int×Links×Int×Wld×(A2 Bool)×(A2 Int)×(List (Int×Wait))×Deed×za×zgz)⊕(Links×Int×Wld×(A2 Bool)×(A2 Int)×(List (Int×Wait))×Deed×za)) :=
 (.ite ((decide (x1 < x10.Got))&&(decide (x1 < ((x10.Said.length:Nat):Int))))
  (.guard ((0:Int)≤x1∧x1 < ((Sl.len (.strs x10.Said):Nat):Int))
  (.bind (zcd (x10.Said.getD x1.toNat .empty)) fun v3 =>
  (.ite ((v3.2==0)&&(v3.1.Kind==2))
   (.guard ((0:Int)≤x0∧(x0:Int) < 2)
   (.guard ((0:Int)≤x0∧(x0:Int) < 2)
   (.leaf (.inl (x0,i64.wrap (x1+1),x2,x3,x4,x5,(x6.set x0 (if v3.1.Id > (x6.get x0) then v3.1.Id else (x6.get x0))),x7,x8,x9,x10)))))
   (.leaf (.inl (x0,i64.wrap (x1+1),x2,x3,x4,x5,x6,x7,x8,x9,x10))))))
  (.leaf (.inr (x2,x3,x4,x5,x6,x7,x8,x9))))
def zib (x0 x1:Int) (x2:Links) (x3:Int) (x4:Wld) (x5:(A2 Bool)) (x6:(A2 Int)) (x7:(List (Int×Wait))) (x8:Deed) (x9:za) (x10:zgz):=zdv (fun s:Int×Int×Links×Int×Wld×(A2 Bool)×(A2 Int)×(List (Int×Wait))×Deed×za×zgz=>(zcr s.1 s.2.1 s.2.2.1 s.2.2.2.1 s.2.2.2.2.1 s.2.2.2.2.2.1 s.2.2.2.2.2.2.1 s.2.2.2.2.2.2.2.1 s.2.2.2.2.2.2.2.2.1 s.2.2.2.2.2.2.2.2.2.1 s.2.2.2.2.2.2.2.2.2.2).run) (x0,x1,x2,x3,x4,x5,x6,x7,x8,x9,x10)
def zas9:Ann:=⟨[],[],[],zaac,[]⟩
def zata:=EndD.mk (LQ.kp 0 0 (LQ.kp 1 0 (LQ.kp 2 0 (LQ.kp 3 0 (LQ.kp 5 0 (LQ.kp 6 0 (LQ.v intP (LQ.kp 7 0 (LQ.v intP (LQ.v (Par.ofLP linksL) (LQ.v intP (LQ.seq (LP.q zn6) (LQ.seq (LP.q (a2L (LP.one boolP))) (LQ.seq (LP.q (a2L (LP.one intP))) (LQ.k (LQ.c (.own 4)) (LQ.v zg0 (LQ.seq (LP.q deedL) (LQ.seq (LP.q providerL) (LP.q lineL))))))))))))))))))) ⟨[0,3,4,5,7,10,11,13,14,31,32],[]⟩ [.cells 99 159,.cells 70 2,.cells 24 2,.cells 71 1,.maps,.cells 29 7,.cells 58 97,.cells 48 4]
def zajn:=EndD.mk (LQ.kp 0 0 (LQ.kp 1 0 (LQ.kp 2 0 (LQ.kp 3 0 (LQ.kp 5 0 (LQ.kp 6 0 (LQ.v (Par.ofLP linksL) (LQ.v intP (LQ.seq (LP.q zn6) (LQ.seq (LP.q (a2L (LP.one boolP))) (LQ.seq (LP.q (a2L (LP.one intP))) (LQ.k (LQ.c (.own 4)) (LQ.v zg0 (LQ.seq (LP.q deedL) (LP.q providerL))))))))))))))) ⟨[0,3,4,5,7,10,31,32],[]⟩ [.cells 99 159,.cells 70 2,.cells 24 2,.cells 71 1,.maps,.cells 29 7,.cells 58 97]
def zal7:St→Option LR:=L1 162 11 5 zata (.exit 2) zajn (u11 zcr)
def zs130a:=sub (fb Tryz.f13) [0,1,1,1,1,0,0,1,1,0,0,1,0,1,1]
theorem zatb:zo (zaad).env 5 zs130a zal7 :=
 zf4 (A:=zas9) zaae fM trivial (k:=zb5 zs130a) (by kernel_rfl) rfl (by rintro ⟨x0,x1,x2,x3,x4,x5,x6,x7,x8,x9,x10⟩;kernel_rfl)
def za3 (x0:Links) (x1:Int) (x2:Wld) (x3:(A2 Bool)) (x4:(A2 Int)) (x5:(List (Int×Wait))) (x6:Deed) (x7:za): Tr ((Links×Int×Wld×(A2 Bool)×(A2 Int)×(List (Int×Wait))×Deed×za)⊕(Wld×(A2 Bool)×(A2 Int)×(List (Int×Wait))×Deed×za)) :=
 (.ite (decide (x1 < 2))
  (.guard ((0:Int)≤x1∧(x1:Int) < 2)
  (.guard ((0:Int)≤x1∧(x1:Int) < 2)
  (.guard ((0:Int)≤x1∧(x1:Int) < 2)
  (.bind (zay x1 x2) fun v2 =>
  (.bind (zib x1 0 x0 x1 v2.2 (x3.set x1 ((x3.get x1)||(x0.Gone.get x1))) x4 x5 x6 x7 v2.1.Out) fun v4 =>
  (.leaf (.inl (v4.1,i64.wrap (v4.2.1+1),v4.2.2.1,v4.2.2.2.1,v4.2.2.2.2.1,v4.2.2.2.2.2.1,v4.2.2.2.2.2.2.1,v4.2.2.2.2.2.2.2))))))))
  (.leaf (.inr ((⟨x2.clock,x2.p,x2.consumers,x2.heads,x2.deeds⟩:Wld),x3,(⟨x4.x0,x4.x1⟩:(A2 Int)),x5,(⟨x6.Kind,x6.C,x6.D,x6.V,x6.N,x6.Back,x6.Forged⟩:Deed),x7))))
def zic (x0:Links) (x1:Int) (x2:Wld) (x3:(A2 Bool)) (x4:(A2 Int)) (x5:(List (Int×Wait))) (x6:Deed) (x7:za):=zdv (fun s:Links×Int×Wld×(A2 Bool)×(A2 Int)×(List (Int×Wait))×Deed×za=>(za3 s.1 s.2.1 s.2.2.1 s.2.2.2.1 s.2.2.2.2.1 s.2.2.2.2.2.1 s.2.2.2.2.2.2.1 s.2.2.2.2.2.2.2).run) (x0,x1,x2,x3,x4,x5,x6,x7)
def zatc:Ann:=⟨[([0,1,1,1,1,0,0,1,1,0,0,1,0,1,1],zal7)],[],[],zaac,[]⟩
def zatd:=EndD.mk (LQ.kp 0 0 (LQ.kp 1 0 (LQ.kp 2 0 (LQ.kp 3 0 (LQ.kp 5 0 (LQ.kp 6 0 (LQ.v (Par.ofLP linksL) (LQ.v intP (LQ.seq (LP.q zn6) (LQ.seq (LP.q (a2L (LP.one boolP))) (LQ.seq (LP.q (a2L (LP.one intP))) (LQ.k (LQ.c (.own 4)) (LQ.v zg0 (LQ.seq (LP.q deedL) (LP.q providerL))))))))))))))) ⟨[0,3,4,5,7,10,31,32],[]⟩ [.cells 99 159,.cells 70 2,.cells 24 2,.cells 71 1,.maps,.cells 29 7,.cells 58 97]
def zajo:=EndD.mk (LQ.kp 1 0 (LQ.kp 2 0 (LQ.kp 3 0 (LQ.kp 5 0 (LQ.kp 6 0 (LQ.seq (LP.q zn6) (LQ.seq (LP.q (a2L (LP.one boolP))) (LQ.seq (LP.q (a2L (LP.one intP))) (LQ.k (LQ.c (.own 4)) (LQ.v zg0 (LQ.seq (LP.q deedL) (LP.q providerL)))))))))))) ⟨[3,4,5,7,10],[]⟩ [.cells 99 159,.cells 70 2,.cells 24 2,.cells 71 1,.maps,.cells 29 7,.cells 58 97]
def zal8:St→Option LR:=L1 162 11 5 zatd (.exit 0) zajo (u8 za3)
def zs130b:=sub (fb Tryz.f13) [0,1,0,1,1]
theorem zate:zo (zaad).env 5 zs130b zal8 :=
 zf4 (A:=zatc) zaae fM ⟨zatb,trivial⟩ (k:=zb5 zs130b) (by kernel_rfl) rfl (by rintro ⟨x0,x1,x2,x3,x4,x5,x6,x7⟩;kernel_rfl)
def zd2 (x0:(List Wait)) (x1 x2:Int) (x3:Wld) (x4:(A2 Bool)) (x5:(A2 Int)) (x6:(List (Int×Wait))) (x7:Deed) (x8:za) (x9:(List (Int×Bool))): Tr (((List Wait)×Int×Int×Wld×(A2 Bool)×(A2 Int)×(List (Int×Wait))×Deed×za×(List (Int×Bool)))⊕(Wld×(A2 Bool)×(A2 Int)×(List (Int×Wait))×Deed×za×(List (Int×Bool)))) :=
 (.ite (decide (x2 < x1))
  (.guard ((0:Int)≤x2∧x2 < ((Sl.len (.waits x0):Nat):Int))
  (.leaf (.inl (x0,x1,i64.wrap (x2+1),x3,x4,x5,x6,x7,x8,z2e (x0.getD x2.toNat default).Number true x9))))
  (.leaf (.inr (x3,x4,x5,x6,x7,x8,x9))))
def zid (x0:(List Wait)) (x1 x2:Int) (x3:Wld) (x4:(A2 Bool)) (x5:(A2 Int)) (x6:(List (Int×Wait))) (x7:Deed) (x8:za) (x9:(List (Int×Bool))):=zdv (fun s:(List Wait)×Int×Int×Wld×(A2 Bool)×(A2 Int)×(List (Int×Wait))×Deed×za×(List (Int×Bool))=>(zd2 s.1 s.2.1 s.2.2.1 s.2.2.2.1 s.2.2.2.2.1 s.2.2.2.2.2.1 s.2.2.2.2.2.2.1 s.2.2.2.2.2.2.2.1 s.2.2.2.2.2.2.2.2.1 s.2.2.2.2.2.2.2.2.2).run) (x0,x1,x2,x3,x4,x5,x6,x7,x8,x9)
def zatf:Ann:=⟨[],[],[],zaac,[]⟩
def zatg:=EndD.mk (LQ.kp 1 0 (LQ.kp 2 0 (LQ.kp 3 0 (LQ.kp 5 0 (LQ.kp 6 0 (LQ.k (LQ.c (.own 7)) (LQ.v ziq (LQ.v intP (LQ.v intP (LQ.seq (LP.q zn6) (LQ.seq (LP.q (a2L (LP.one boolP))) (LQ.seq (LP.q (a2L (LP.one intP))) (LQ.k (LQ.c (.own 4)) (LQ.v zg0 (LQ.seq (LP.q deedL) (LQ.seq (LP.q providerL) (Par.q z0g))))))))))))))))) ⟨[3,4,5,7,10,17,90,91,92],[.pub 90,.nilsl 90 (.waits [])]⟩ [.cells 99 159,.cells 70 2,.cells 24 2,.cells 71 1,.maps,.cells 29 7,.cells 58 97,.maps]
def zajp:=EndD.mk (LQ.kp 1 0 (LQ.kp 2 0 (LQ.kp 3 0 (LQ.kp 5 0 (LQ.kp 6 0 (LQ.k (LQ.c (.own 7)) (LQ.seq (LP.q zn6) (LQ.seq (LP.q (a2L (LP.one boolP))) (LQ.seq (LP.q (a2L (LP.one intP))) (LQ.k (LQ.c (.own 4)) (LQ.v zg0 (LQ.seq (LP.q deedL) (LQ.seq (LP.q providerL) (Par.q z0g)))))))))))))) ⟨[3,4,5,7,10,17],[]⟩ [.cells 99 159,.cells 70 2,.cells 24 2,.cells 71 1,.maps,.cells 29 7,.cells 58 97,.maps]
def zal9:St→Option LR:=L1 162 11 5 zatg (.exit 4) zajp (u10 zd2)
def zs130c:=sub (fb Tryz.f13) [0,1,0,1,1,1,1]
theorem zath:zo (zaad).env 5 zs130c zal9 :=
 zf4 (A:=zatf) zaae fM trivial (k:=zb5 zs130c) (by kernel_rfl) rfl (by rintro ⟨x0,x1,x2,x3,x4,x5,x6,x7,x8,x9⟩;kernel_rfl)
def zcs (x0:Int) (x1:Value) (x2:(A2 Int)) (x3:Int) (x4:Wld) (x5:(A2 Bool)) (x6:(A2 Int)) (x7:Deed) (x8:za) (x9:(List (Int×Bool))): Tr ((Int×Value×(A2 Int)×Int×Wld×(A2 Bool)×(A2 Int)×Deed×za×(List (Int×Bool)))⊕((Bool×Wld×(A2 Bool)×(A2 Int))⊕(Int×Value×Wld×(A2 Bool)×(A2 Int)×Deed×za×(List (Int×Bool))))) :=
 (.ite (decide (x3 < 2))
  (.guard ((0:Int)≤x3∧(x3:Int) < 2)
  (.guard ((0:Int)≤x3∧(x3:Int) < 2)
  (.guard (((decide ((x2.get x3) > (x6.get x3)))=true→((0:Int)≤x3∧(x3:Int) < 2)∧True))
  (.ite ((decide ((x2.get x3) > (x6.get x3)))&&(!(x5.get x3)))
   (.leaf (.inr (.inl (false,x4,x5,x6))))
   (.leaf (.inl (x0,x1,x2,i64.wrap (x3+1),x4,x5,x6,x7,x8,x9)))))))
  (.leaf (.inr (.inr (x0,x1,x4,x5,x6,x7,x8,x9)))))
def zie (x0:Int) (x1:Value) (x2:(A2 Int)) (x3:Int) (x4:Wld) (x5:(A2 Bool)) (x6:(A2 Int)) (x7:Deed) (x8:za) (x9:(List (Int×Bool))):=zdv (fun s:Int×Value×(A2 Int)×Int×Wld×(A2 Bool)×(A2 Int)×Deed×za×(List (Int×Bool))=>(zcs s.1 s.2.1 s.2.2.1 s.2.2.2.1 s.2.2.2.2.1 s.2.2.2.2.2.1 s.2.2.2.2.2.2.1 s.2.2.2.2.2.2.2.1 s.2.2.2.2.2.2.2.2.1 s.2.2.2.2.2.2.2.2.2).run) (x0,x1,x2,x3,x4,x5,x6,x7,x8,x9)
def zati:Ann:=⟨[],[],[],zaac,[]⟩
def zatj:=EndD.mk (LQ.kp 1 0 (LQ.kp 2 0 (LQ.kp 3 0 (LQ.kp 5 0 (LQ.kp 6 0 (LQ.k (LQ.c (.own 7)) (LQ.v intP (LQ.seq LQ.anyv (LQ.seq (Par.q (Par.ofLP (a2L (LP.one intP)))) (LQ.v intP (LQ.seq (LP.q zn6) (LQ.seq (LP.q (a2L (LP.one boolP))) (LQ.seq (LP.q (a2L (LP.one intP))) (LQ.k (LQ.c (.own 4)) (LQ.seq (LP.q deedL) (LQ.seq (LP.q providerL) (Par.q z0g))))))))))))))))) ⟨[3,4,5,7,10,17,20,101,121,122],[]⟩ [.cells 99 159,.cells 70 2,.cells 24 2,.cells 71 1,.gone,.cells 29 7,.cells 58 97,.maps]
def zajq:=EndD.mk (LQ.v boolP (LQ.seq (LP.q zn6) (LQ.seq (LP.q (a2L (LP.one boolP))) (LQ.skipR (LP.q (a2L (LP.one intP))) (LQ.c (.own 4)))))) ⟨[9],[]⟩ [.cells 99 159,.cells 70 2,.cells 24 2,.cells 71 1,.gone]
def zajr:=EndD.mk (LQ.kp 1 0 (LQ.kp 2 0 (LQ.kp 3 0 (LQ.kp 5 0 (LQ.kp 6 0 (LQ.k (LQ.c (.own 7)) (LQ.v intP (LQ.seq LQ.anyv (LQ.seq (LP.q zn6) (LQ.seq (LP.q (a2L (LP.one boolP))) (LQ.seq (LP.q (a2L (LP.one intP))) (LQ.k (LQ.c (.own 4)) (LQ.seq (LP.q deedL) (LQ.seq (LP.q providerL) (Par.q z0g))))))))))))))) ⟨[3,4,5,7,10,17,20,101],[]⟩ [.cells 99 159,.cells 70 2,.cells 24 2,.cells 71 1,.gone,.cells 29 7,.cells 58 97,.maps]
def zama:St→Option LR:=L2 162 11 5 zatj .ret zajq (.exit 8) zajr (u10 zcs)
theorem zatk:zo (zaad).env 5 (sub (zqo (sub (fb Tryz.f13) [1,0,1,1,0,0,1,0,1,1,1,1,1])) [0,1,0,1,1]) zama :=
 zpm (A:=zati) zaae fM trivial (k:=zb5 (sub (zqo (sub (fb Tryz.f13) [1,0,1,1,0,0,1,0,1,1,1,1,1])) [0,1,0,1,1])) (by kernel_rfl) rfl rfl (by rintro ⟨x0,x1,x2,x3,x4,x5,x6,x7,x8,x9⟩;kernel_rfl)
def zbp (it:Value) (x0:Wld) (x1:(A2 Bool)) (x2:(A2 Int)) (x3:Deed) (x4:za) (x5:(List (Int×Bool))) (k:Int) (y:Wait): Tr ((Int×Value×Wld×(A2 Bool)×(A2 Int)×Deed×za×(List (Int×Bool)))⊕(Value×Wld×(A2 Bool)×(A2 Int)×Deed×za×(List (Int×Bool)))) :=
 (.ite (zt3 false x5 k)
  (.leaf (.inr (it,x0,x1,x2,x3,x4,x5)))
  (.ite ((decide (x4.Time < y.Due))||(x3.Kind != 6))
   .fail
   (.two (zie k it (⟨y.h0,y.h1⟩:(A2 Int)) 0 x0 x1 x2 x3 x4 x5) (fun v7 =>
    .fail) (fun v8 =>
    (.leaf (.inl (v8.1,v8.2.1,v8.2.2.1,v8.2.2.2.1,v8.2.2.2.2.1,v8.2.2.2.2.2.1,v8.2.2.2.2.2.2.1,v8.2.2.2.2.2.2.2)))))))
def zagh (x0:Wld) (x1:(A2 Bool)) (x2:(A2 Int)) (x3:Deed) (x4:za) (x5:(List (Int×Bool))) (m:List (Int×Wait)):Wld×(A2 Bool)×(A2 Int)×(List (Int×Wait))×za:=(x0,x1,x2,m,(⟨x4.Height,x4.Time,x4.Stake,x4.Set,x4.Links,x4.Meter,x4.Queue⟩:za))
def zif (x0:Wld) (x1:(A2 Bool)) (x2:(A2 Int)) (x3:Deed) (x4:za) (x5:(List (Int×Bool))) (m:List (Int×Wait)): Option (Wld×(A2 Bool)×(A2 Int)×(List (Int×Wait))×za):=(mapF (fun it k y=>(zbp it x0 x1 x2 x3 x4 x5 k y).run) (x0,x1,x2,x3,x4,x5) m).map (zagh x0 x1 x2 x3 x4 x5)
def zatl:Ann:=⟨[([0,1,0,1,1],zama)],[],[],zaac,[]⟩
def zatm:=EndD.mk (LQ.kp 1 0 (LQ.kp 2 0 (LQ.kp 3 0 (LQ.kp 5 0 (LQ.kp 6 0 (LQ.k (LQ.c (.own 7)) (LQ.seq (LP.q zn6) (LQ.seq (LP.q (a2L (LP.one boolP))) (LQ.seq (LP.q (a2L (LP.one intP))) (LQ.k (LQ.c (.own 4)) (LQ.seq (LP.q deedL) (LQ.seq (LP.q providerL) (Par.q z0g))))))))))))) ⟨[3,4,5,7,10,17],[]⟩ [.cells 99 159,.cells 70 2,.cells 24 2,.cells 71 1,.gone,.cells 29 7,.cells 58 97,.maps]
def zajs:=EndD.mk (LQ.kp 3 0 (LQ.kp 5 0 (LQ.seq (LP.q zn6) (LQ.seq (LP.q (a2L (LP.one boolP))) (LQ.seq (LP.q (a2L (LP.one intP))) (LQ.k (LQ.c (.own 4)) (LQ.v zg0 (LP.q providerL)))))))) ⟨[5,10],[]⟩ [.cells 99 159,.cells 70 2,.cells 24 2,.cells 71 1,.maps,.cells 58 97]
def zamb:St→Option LR:=mapL 162 11 5 4 zatm zajs (fun it s k y=>zbp it s.1 s.2.1 s.2.2.1 s.2.2.2.1 s.2.2.2.2.1 s.2.2.2.2.2 k y) (fun s m=>zagh s.1 s.2.1 s.2.2.1 s.2.2.2.1 s.2.2.2.2.1 s.2.2.2.2.2 m)
def zs130e:=sub (fb Tryz.f13) [0,1,1,1,1,1]
theorem zatn:zo (zaad).env 5 zs130e zamb :=
 zadq (A:=zatl) zaae fM (b0:=6) (b7:=7) (dc:=5) (d100:=100) (dIt:=101) (d102:=102) (d103:=103) (de:=104) (dk:=20) (d138:=138) (d139:=139) (T0:=71) (K0:=3) (E0:=78) (jm:=4) (jc:=3) (Tc:=71) (c7:=(sub (fb Tryz.f13) [1,0,1,1,0,0,1,0,1,1,1,1,1])) (i0:=(idOf (sub (fb Tryz.f13) [0,0,1,1,1,1,1]))) (i1:=(idOf (sub (fb Tryz.f13) [0,0,0,1,0,1,1,1,1,1]))) (i2:=(idOf (sub (fb Tryz.f13) [0,0,1,1,0,0,1,0,1,1,1,1,1]))) (i3:=(idOf (z9q (sub (fb Tryz.f13) [1,0,1,1,0,0,1,0,1,1,1,1,1])))) (p0:=(opN (sub (fb Tryz.f13) [0,0,1,1,1,1,1]) 0)) (p1:=(opN (sub (fb Tryz.f13) [0,0,1,1,1,1,1]) 1)) (q0:=(opN (sub (fb Tryz.f13) [0,0,0,1,0,1,1,1,1,1]) 0)) (q1:=(opN (sub (fb Tryz.f13) [0,0,0,1,0,1,1,1,1,1]) 1)) (oe:=(opN (sub (fb Tryz.f13) [0,0,1,1,0,0,1,0,1,1,1,1,1]) 0)) (l2:=(z9p (sub (fb Tryz.f13) [0,0,1,1,0,0,1,0,1,1,1,1,1])).tail) (r0:=(opN (z9q (sub (fb Tryz.f13) [1,0,1,1,0,0,1,0,1,1,1,1,1])) 0)) (r1:=(opN (z9q (sub (fb Tryz.f13) [1,0,1,1,0,0,1,0,1,1,1,1,1])) 1)) (r2:=(opN (z9q (sub (fb Tryz.f13) [1,0,1,1,0,0,1,0,1,1,1,1,1])) 2)) (T:=fun it s k y=>zbp it s.1 s.2.1 s.2.2.1 s.2.2.2.1 s.2.2.2.2.1 s.2.2.2.2.2 k y) (g:=fun s m=>zagh s.1 s.2.1 s.2.2.1 s.2.2.2.1 s.2.2.2.2.1 s.2.2.2.2.2 m)
  (by kernel_rfl) (by kernel_rfl) (by kernel_rfl) (by kernel_rfl) (by kernel_rfl) (by kernel_rfl) (by kernel_rfl) (by kernel_rfl) (by kernel_rfl) (by decide) (by decide) (by decide) (by rintro ⟨x0,x1,x2,x3,x4,x5⟩;exact ⟨⟨by kernel_rfl,by kernel_rfl⟩,by kernel_rfl,Nat.le_of_ble_eq_true (by kernel_rfl)⟩) (by rintro ⟨x0,x1,x2,x3,x4,x5⟩;kernel_rfl) (by rintro ⟨x0,x1,x2,x3,x4,x5⟩;intro m;kernel_rfl) ⟨zatk,trivial⟩ (by kernel_rfl) (by intro it;rintro ⟨x0,x1,x2,x3,x4,x5⟩;intro k y;kernel_rfl)
def zct (x0:(List Wait)) (x1 x2:Int) (x3:Wld) (x4:(A2 Bool)) (x5:(A2 Int)) (x6:(List (Int×Wait))): Tr (((List Wait)×Int×Int×Wld×(A2 Bool)×(A2 Int)×(List (Int×Wait)))⊕(Wld×(A2 Bool)×(A2 Int)×(List (Int×Wait)))) :=
 (.ite (decide (x2 < x1))
  (.guard ((0:Int)≤x2∧x2 < ((Sl.len (.waits x0):Nat):Int))
  (.ite (!(zzx x6 (x0.getD x2.toNat default).Number))
   (.leaf (.inl (x0,x1,i64.wrap (x2+1),x3,x4,x5,z2e (x0.getD x2.toNat default).Number (x0.getD x2.toNat default) x6)))
   (.leaf (.inl (x0,x1,i64.wrap (x2+1),x3,x4,x5,x6)))))
  (.leaf (.inr (x3,x4,x5,x6))))
def zig (x0:(List Wait)) (x1 x2:Int) (x3:Wld) (x4:(A2 Bool)) (x5:(A2 Int)) (x6:(List (Int×Wait))):=zdv (fun s:(List Wait)×Int×Int×Wld×(A2 Bool)×(A2 Int)×(List (Int×Wait))=>(zct s.1 s.2.1 s.2.2.1 s.2.2.2.1 s.2.2.2.2.1 s.2.2.2.2.2.1 s.2.2.2.2.2.2).run) (x0,x1,x2,x3,x4,x5,x6)
def zato:Ann:=⟨[],[],[],zaac,[]⟩
def zatp:=EndD.mk (LQ.kp 3 0 (LQ.v ziq (LQ.v intP (LQ.v intP (LQ.seq (LP.q zn6) (LQ.seq (LP.q (a2L (LP.one boolP))) (LQ.seq (LP.q (a2L (LP.one intP))) (LQ.k (LQ.c (.own 4)) (Par.q zg0))))))))) ⟨[5,142,143,144],[.pub 142,.nilsl 142 (.waits [])]⟩ [.cells 99 159,.cells 70 2,.cells 24 2,.cells 71 1,.maps]
def zajt:=EndD.mk (LQ.seq (LP.q zn6) (LQ.seq (LP.q (a2L (LP.one boolP))) (LQ.seq (LP.q (a2L (LP.one intP))) (LQ.k (LQ.c (.own 4)) (Par.q zg0))))) ⟨[],[]⟩ [.cells 99 159,.cells 70 2,.cells 24 2,.cells 71 1,.maps]
def zamc:St→Option LR:=L1 162 11 5 zatp (.exit 10) zajt (u7 zct)
def zs130f:=sub (fb Tryz.f13) [0,1,0,1,1,1,1,1,1]
theorem zatq:zo (zaad).env 5 zs130f zamc :=
 zf4 (A:=zato) zaae fM trivial (k:=zb5 zs130f) (by kernel_rfl) rfl (by rintro ⟨x0,x1,x2,x3,x4,x5,x6⟩;kernel_rfl)
def znx (a0:Deed) (a1:Reply) (a2:Wld) (a3:(A2 Bool)) (a4:(A2 Int)) (a5:(List (Int×Wait))): Tr (Bool×Wld×(A2 Bool)×(A2 Int)×(List (Int×Wait))) :=
 (.bind (zc2 a2) fun v1 =>
 (.bind (zic v1.1.Links 0 v1.2 a3 a4 a5 a0 v1.1) fun v5 =>
 (.bind (zid v5.2.2.2.2.2.Stake.Waits ((v5.2.2.2.2.2.Stake.Waits.length:Nat):Int) 0 v5.1 v5.2.1 v5.2.2.1 v5.2.2.2.1 v5.2.2.2.2.1 v5.2.2.2.2.2 []) fun v6 =>
 (.bind (zif v6.1 v6.2.1 v6.2.2.1 v6.2.2.2.2.1 v6.2.2.2.2.2.1 v6.2.2.2.2.2.2 v6.2.2.2.1) fun v9 =>
 (.bind (zig v9.2.2.2.2.Stake.Waits ((v9.2.2.2.2.Stake.Waits.length:Nat):Int) 0 v9.1 v9.2.1 v9.2.2.1 v9.2.2.2.1) fun v10 =>
 (.leaf (true,v10.1,v10.2.1,v10.2.2.1,v10.2.2.2)))))))
def zah (a0:Deed) (a1:Reply) (a2:Wld) (a3:(A2 Bool)) (a4:(A2 Int)) (a5:(List (Int×Wait))):=(znx a0 a1 a2 a3 a4 a5).run
def zzi:=(LQ.v boolP (LQ.seq (LP.q zn6) (LQ.seq (LP.q (a2L (LP.one boolP))) (LQ.seq (LP.q (a2L (LP.one intP))) (LQ.k (LQ.c (.own 4)) (Par.q zg0))))))
def zs7:SpecT:=zt 5 (LQ.kp 0 0 (LQ.v (Par.ofLP deedL) (LQ.v (Par.ofLP zyl) (LQ.kp 1 0 (LQ.kp 2 0 (LQ.kp 3 0 (LQ.seq (LP.q zn6) (LQ.seq (LP.q (a2L (LP.one boolP))) (LQ.seq (LP.q (a2L (LP.one intP))) (LQ.k (LQ.c (.own 4)) (Par.q zg0))))))))))) 6 [.cells 99 159,.cells 70 2,.cells 24 2,.cells 71 1,.maps] (u6 znx) default zzi 1 [.cells 99 159,.cells 70 2,.cells 24 2,.cells 71 1,.maps]
theorem zzj:zf Tryz.prog 13 (zs7).spec :=
 sK (A:=⟨[([0,1,0,1,1],zal8),([0,1,0,1,1,1,1],zal9),([0,1,1,1,1,1],zamb),([0,1,0,1,1,1,1,1,1],zamc)],[],[],zaac,[]⟩) zaae fM Tryz.func13 (c:=(fb Tryz.f13)) (by kernel_rfl) (Lc:=5) ⟨zate,zath,zatn,zatq,trivial⟩ _ _ 11 _ _ _ _ _ _ [.pubN 0] (by rintro ⟨a0,a1,a2,a3,a4,a5⟩;kernel_rfl)
def zatr:List (List Nat):=[[0,1],[0,1,10],[4,5],[0,1,6],[0,1,6,7],[0,1,6,7,19],[0,1,6,7],[0,1,6,7,8],[0,1,6,7,36],[4,5],[4,5]]
noncomputable def zats:EnvT:=⟨Tryz.prog,zad [(23,z1c),(19,zvt),(17,zlv),(13,zs7)]⟩
theorem zatt:(zats).Ok:=ze ⟨z7w,zyx,zp6,zzj,trivial⟩
def zd3 (x0:(List Deed)) (x1:Int) (x2:(A2 Bool)) (x3:(A2 Int)) (x4:(List (Int×Wait))) (x5:Wld): Tr (((List Deed)×Int×(A2 Bool)×(A2 Int)×(List (Int×Wait))×Wld)⊕((Bool×(A2 Bool)×(A2 Int)×(List (Int×Wait))×Wld)⊕((A2 Bool)×(A2 Int)×(List (Int×Wait))×Wld))) :=
 (.ite ((decide (x1 < ((x0.length:Nat):Int)))&&(decide (x1 < 120)))
  (.guard ((0:Int)≤x1∧x1 < ((Sl.len (.deeds x0):Nat):Int))
  (.bind (zb8 (x0.getD x1.toNat default) x5) fun v3 =>
  (.guard ((0:Int)≤x1∧x1 < ((Sl.len (.deeds x0):Nat):Int))
  (.guard ((zah (x0.getD x1.toNat default) v3.1 v3.2 x2 x3 x4).isSome=true)
  (.ite (!((zah (x0.getD x1.toNat default) v3.1 v3.2 x2 x3 x4).getD default).1)
   (.leaf (.inr (.inl (false,(((zah (x0.getD x1.toNat default) v3.1 v3.2 x2 x3 x4).getD default).2.2.1),(((zah (x0.getD x1.toNat default) v3.1 v3.2 x2 x3 x4).getD default).2.2.2.1),((zah (x0.getD x1.toNat default) v3.1 v3.2 x2 x3 x4).getD default).2.2.2.2,((zah (x0.getD x1.toNat default) v3.1 v3.2 x2 x3 x4).getD default).2.1))))
   (.leaf (.inl (x0,i64.wrap (x1+1),(((zah (x0.getD x1.toNat default) v3.1 v3.2 x2 x3 x4).getD default).2.2.1),(((zah (x0.getD x1.toNat default) v3.1 v3.2 x2 x3 x4).getD default).2.2.2.1),((zah (x0.getD x1.toNat default) v3.1 v3.2 x2 x3 x4).getD default).2.2.2.2,((zah (x0.getD x1.toNat default) v3.1 v3.2 x2 x3 x4).getD default).2.1))))))))
  (.leaf (.inr (.inr (x2,x3,x4,x5)))))
def zih (x0:(List Deed)) (x1:Int) (x2:(A2 Bool)) (x3:(A2 Int)) (x4:(List (Int×Wait))) (x5:Wld):=zdv (fun s:(List Deed)×Int×(A2 Bool)×(A2 Int)×(List (Int×Wait))×Wld=>(zd3 s.1 s.2.1 s.2.2.1 s.2.2.2.1 s.2.2.2.2.1 s.2.2.2.2.2).run) (x0,x1,x2,x3,x4,x5)
def zatu:Ann:=⟨[],[],[],zatr,[]⟩
def zatv:=EndD.mk (LQ.v deedsP (LQ.k (LQ.c (.fn 13 [.ptr 0 0,.ptr 1 0,.ptr 2 0])) (LQ.kp 4 0 (LQ.v intP (LQ.seq (LP.q (a2L (LP.one boolP))) (LQ.seq (LP.q (a2L (LP.one intP))) (LQ.k (LQ.c (.own 3)) (LQ.v zg0 (LP.q zn6))))))))) ⟨[0,1,6,7],[.pub 0,.nilsl 0 (.deeds [])]⟩ [.cells 70 2,.cells 24 2,.cells 71 1,.maps,.cells 99 159]
def zaju:=EndD.mk (LQ.kp 4 0 (LQ.v boolP (LQ.seq (LP.q (a2L (LP.one boolP))) (LQ.seq (LP.q (a2L (LP.one intP))) (LQ.k (LQ.c (.own 3)) (LQ.v zg0 (LP.q zn6))))))) ⟨[4,5],[.pubB 4]⟩ [.cells 70 2,.cells 24 2,.cells 71 1,.maps,.cells 99 159]
def zajv:=EndD.mk (LQ.kp 4 0 (LQ.seq (LP.q (a2L (LP.one boolP))) (LQ.seq (LP.q (a2L (LP.one intP))) (LQ.k (LQ.c (.own 3)) (LQ.v zg0 (LP.q zn6)))))) ⟨[6],[]⟩ [.cells 70 2,.cells 24 2,.cells 71 1,.maps,.cells 99 159]
def zamd:St→Option LR:=L2 39 8 4 zatv .ret zaju (.exit 0) zajv (u6 zd3)
def zs131a:=sub (fb Tryz.f8) [0,1,0,1,1,1]
theorem zatw:zo (zats).env 4 zs131a zamd :=
 zpm (A:=zatu) zatt fM trivial (k:=zb5 zs131a) (by kernel_rfl) rfl rfl (by rintro ⟨x0,x1,x2,x3,x4,x5⟩;kernel_rfl)
def zny (a0:(List Deed)) (a1:(A2 Bool)) (a2:(A2 Int)) (a3:(List (Int×Wait))): Tr (Bool×(A2 Bool)×(A2 Int)×(List (Int×Wait))×Wld) :=
 (.bind (zs6) fun v1 =>
 (.ite (!v1)
  .fail
  (.bind (zoo) fun v2 =>
  (.two (zih a0 0 a1 a2 a3 v2) (fun v4 =>
   (.leaf (v4.1,v4.2.1,v4.2.2.1,v4.2.2.2.1,v4.2.2.2.2))) (fun v5 =>
   (.leaf (true,v5.1,v5.2.1,v5.2.2.1,v5.2.2.2)))))))
def zry (a0:(List Deed)) (a1:(A2 Bool)) (a2:(A2 Int)) (a3:(List (Int×Wait))):=(zny a0 a1 a2 a3).run
def zzk:=(LQ.kp 4 0 (LQ.v boolP (LQ.seq (LP.q (a2L (LP.one boolP))) (LQ.seq (LP.q (a2L (LP.one intP))) (LQ.k (LQ.c (.own 3)) (LQ.v zg0 (LP.q zn6)))))))
def zs8:SpecT:=zt 4 (LQ.v deedsP (LQ.k (LQ.c (.fn 13 [.ptr 0 0,.ptr 1 0,.ptr 2 0])) (LQ.seq (LP.q (a2L (LP.one boolP))) (LQ.seq (LP.q (a2L (LP.one intP))) (LQ.k (LQ.c (.own 3)) (Par.q zg0)))))) 2 [.cells 70 2,.cells 24 2,.cells 71 1,.maps] (u4 zny) default zzk 2 [.cells 70 2,.cells 24 2,.cells 71 1,.maps,.cells 99 159]
theorem zzl:zf Tryz.prog 8 (zs8).spec :=
 sK (A:=⟨[([0,1,0,1,1,1],zamd)],[],[],zatr,[]⟩) zatt fM Tryz.func8 (c:=(fb Tryz.f8)) (by kernel_rfl) (Lc:=4) ⟨zatw,trivial⟩ _ _ 8 _ _ _ _ _ _ [.pubB 4] (by rintro ⟨a0,a1,a2,a3⟩;kernel_rfl)
noncomputable def zaz5:EnvT:=⟨Tryz.prog,zad [(8,zs8)]⟩
theorem zaz6:(zaz5).Ok:=ze ⟨zzl,trivial⟩
def zrd (a0:(List Deed)): Tr (Bool) :=
 (.bind (zry a0 (⟨false,false⟩:(A2 Bool)) (⟨0,0⟩:(A2 Int)) []) fun v1 =>
 (.leaf v1.1))
def zkr (a0:(List Deed)):=(zrd a0).run
def qr_top_TopHeld:=(Par.q boolP)
def z5u:SpecT:=zt 0 (Par.q deedsP) 1 [] zrd default qr_top_TopHeld 1 []
theorem z24:zf Tryz.prog 4 (z5u).spec :=
 sK (A:=⟨[],[],[],[[0],[0,3],[0,3,4],[0,3,4,5],[7],[2]],[]⟩) zaz6 fM Tryz.func4 (c:=(fb Tryz.f4)) (by kernel_rfl) (Lc:=0) trivial _ _ 7 _ _ _ _ _ _ [] (by rintro a0;kernel_rfl)
end
