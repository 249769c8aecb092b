/-
  The functions, each by its tree.
-/
import Derived.Test.YtiacgjebngnddaaGreatXAbC
import Derived.Test.YtiacgjebngnddaaGreatXFCodec
import Derived.Test.YtiacgjebngnddaaGreatXFLine
import Derived.Test.YtiacgjebngnddaaGreatXFRatio
import Derived.Test.YtiacgjebngnddaaGreatXFStakeB
import Derived.Test.YtiacgjebngnddaaGreatXFacts
namespace Go.Proofs.YtiacgjebngnddaaGreat.Ab
open Go Go.RowKit
open Go.IntKind (i64 u64)
set_option maxRecDepth 100000
set_option linter.unusedVariables false
set_option linter.unusedSimpArgs false
noncomputable section
noncomputable def zy89:EnvT:=⟨Tryz.prog,zad [(29,zk3)]⟩
theorem zh89:(zy89).Ok:=ze ⟨zmk,trivial⟩
def zj4 (a0:Packet): Tr (Bool) :=
 (.bind (zfb a0) fun v1 =>
 (.leaf ((v1 != 0)||(a0.Kind != 1))))
def zol (a0:Packet):=(zj4 a0).run
def zp0:SpecT:=zt 0 (Par.q (Par.ofLP zjq)) 1 [] zj4 default (Par.q boolP) 1 []
theorem zw7:zf Tryz.prog 116 (zp0).spec :=
 sK (A:=⟨[],[],[],[[1],[2]],[]⟩) zh89 fM Tryz.func116 (c:=(fb Tryz.f116)) (by kernel_rfl) (Lc:=0) trivial _ _ 3 _ _ _ _ _ _ [] (by rintro a0;kernel_rfl)
def zv90:List (List Nat):=[[0,1],[0,1,7,8],[0,1,7,8,9],[0,1,5,7,8],[0,1,5,7,8,16],[4],[0,1,7,8],[4]]
noncomputable def zy90:EnvT:=⟨Tryz.prog,zad [(116,zp0)]⟩
theorem zh90:(zy90).Ok:=ze ⟨zw7,trivial⟩
def zae (x0:(List Packet)) (x1 x2:Int): Tr (((List Packet)×Int×Int)⊕((Int)⊕(Unit))) :=
 (.ite (decide (x2 < x1))
  (.guard ((0:Int)≤x2∧x2 < ((Sl.len (.packets x0):Nat):Int))
  (.bind (zol (x0.getD x2.toNat default)) fun v1 =>
  (.ite (v1)
   (.leaf (.inr (.inl x2)))
   (.leaf (.inl (x0,x1,i64.wrap (x2+1)))))))
  (.leaf (.inr (.inr ()))))
def zd1 (x0:(List Packet)) (x1 x2:Int):=zdv (fun s:(List Packet)×Int×Int=>(zae s.1 s.2.1 s.2.2).run) (x0,x1,x2)
def zaxo:Ann:=⟨[],[],[],zv90,[]⟩
def zaxp:=EndD.mk (LQ.v zdd (LQ.k (LQ.c (.fn 116 [])) (LQ.v intP (Par.q intP)))) ⟨[0,1,7,8],[.pub 0,.nilsl 0 (.packets [])]⟩ []
def zan4:=EndD.mk (Par.q intP) ⟨[4],[]⟩ []
def zan5:EndD (Unit):=⟨LQ.nil,⟨[],[]⟩,[]⟩
def zar7:St→Option LR:=L2 19 2 0 zaxp .ret zan4 (.exit 0) zan5 (u3 zae)
def zs90a:=sub (fb Tryz.f138) [0,1,0,1]
theorem zaxq:zo (zy90).env 0 zs90a zar7 :=
 zpm (A:=zaxo) zh90 fM trivial (k:=zb5 zs90a) (by kernel_rfl) rfl rfl (by rintro ⟨x0,x1,x2⟩;kernel_rfl)
def zba (a0:(List Packet)): Tr (Int) :=
 (.two (zd1 a0 ((a0.length:Nat):Int) 0) (fun v2 =>
  (.leaf v2)) (fun v3 =>
  (.leaf (-1))))
def zce (a0:(List Packet)):=(zba a0).run
def zfj:SpecT:=zt 0 (LQ.skipR (Par.q zdd) (LQ.c (.fn 116 []))) 2 [] zba default (Par.q intP) 1 []
theorem zk5:zf Tryz.prog 138 (zfj).spec :=
 sK (A:=⟨[([0,1,0,1],zar7)],[],[],zv90,[]⟩) zh90 fM Tryz.func138 (c:=(fb Tryz.f138)) (by kernel_rfl) (Lc:=0) ⟨zaxq,trivial⟩ _ _ 2 _ _ _ _ _ _ [] (by rintro a0;kernel_rfl)
noncomputable def zy91:EnvT:=⟨Tryz.prog,zad [(138,zfj)]⟩
theorem zh91:(zy91).Ok:=ze ⟨zk5,trivial⟩
def zb0 (a0:(List Packet)): Tr (Bool) :=
 (.bind (zce a0) fun v1 =>
 (.leaf (decide (v1≥0))))
def zbl (a0:(List Packet)):=(zb0 a0).run
def zed:SpecT:=zt 0 (LQ.skipR (Par.q zdd) (LQ.c (.fn 116 []))) 2 [] zb0 default (Par.q boolP) 1 []
theorem zi7:zf Tryz.prog 115 (zed).spec :=
 sK (A:=⟨[],[],[],[[0,1],[4]],[]⟩) zh91 fM Tryz.func115 (c:=(fb Tryz.f115)) (by kernel_rfl) (Lc:=0) trivial _ _ 2 _ _ _ _ _ _ [] (by rintro a0;kernel_rfl)
def zv92:List (List Nat):=[[1],[1,48],[2],[1,50,51,52],[1,50,51,52,53],[1,3,4,50,51,52],[1,50,51,52,90],[2],[1,50,51,52],[1,93,94,95],[1,93,94,95,96],[1,6,93,94,95],[1,93,94,95,111],[2],[1,93,94,95],[2]]
noncomputable def zy92:EnvT:=⟨Tryz.prog,zad [(58,zjz),(115,zed)]⟩
theorem zh92:(zy92).Ok:=ze ⟨zk2,zi7,trivial⟩
def zfy (x0:(List Power)) (x1 x2:Int) (x3:Consumer): Tr (((List Power)×Int×Int×Consumer)⊕((Bool)⊕(Consumer))) :=
 (.ite (decide (x2 < x1))
  (.guard ((0:Int)≤x2∧x2 < ((Sl.len (.powers x0):Nat):Int))
  (.guard (((decide (x2 > 0))=true→(((decide (((x0.getD x2.toNat default).V) < 0))||(decide (((x0.getD x2.toNat default).V)≥6)))=false→((0:Int)≤(i64.wrap (x2 - 1))∧(i64.wrap (x2 - 1)) < ((Sl.len (.powers x3.Set):Nat):Int))∧True)))
  (.ite (((((decide (((x0.getD x2.toNat default).V) < 0))||(decide (((x0.getD x2.toNat default).V)≥6)))||((decide (x2 > 0))&&(decide (((x3.Set.getD ((i64.wrap (x2 - 1)).toNat) default).V)≥((x0.getD x2.toNat default).V)))))||(decide (((x0.getD x2.toNat default).N) < 1)))||(decide (((x0.getD x2.toNat default).N) > 1125899906842624)))
   (.leaf (.inr (.inl false)))
   (.leaf (.inl (x0,x1,i64.wrap (x2+1),x3))))))
  (.leaf (.inr (.inr x3))))
def znd (x0:(List Power)) (x1 x2:Int) (x3:Consumer):=zdv (fun s:(List Power)×Int×Int×Consumer=>(zfy s.1 s.2.1 s.2.2.1 s.2.2.2).run) (x0,x1,x2,x3)
def zaxu:Ann:=⟨[],[],[],zv92,[]⟩
def zaxv:=EndD.mk (LQ.kp 0 0 (LQ.v zm (LQ.v intP (LQ.v intP (LP.q z6))))) ⟨[1,50,51,52],[.pub 50,.nilsl 50 (.powers [])]⟩ [.cells 64 22]
def zan6:=EndD.mk (Par.q boolP) ⟨[2],[]⟩ []
def zan7:=EndD.mk (LQ.kp 0 0 (LP.q z6)) ⟨[1],[]⟩ [.cells 64 22]
def zar8:St→Option LR:=L2 117 4 0 zaxv .ret zan6 (.exit 0) zan7 (u4 zfy)
def zs92a:=sub (fb Tryz.f74) [0,1,0,1,1]
theorem zaxw:zo (zy92).env 0 zs92a zar8 :=
 zpm (A:=zaxu) zh92 fM trivial (k:=zb5 zs92a) (by kernel_rfl) rfl rfl (by rintro ⟨x0,x1,x2,x3⟩;kernel_rfl)
def zcn (x0:(List Ripe)) (x1 x2:Int) (x3:Consumer): Tr (((List Ripe)×Int×Int×Consumer)⊕((Bool)⊕(Consumer))) :=
 (.ite (decide (x2 < x1))
  (.guard ((0:Int)≤x2∧x2 < ((Sl.len (.ripes x0):Nat):Int))
  (.ite (((decide (((x0.getD x2.toNat default).Id) < 1))||(decide (((x0.getD x2.toNat default).Id) > 1099511627776)))||(decide (((x0.getD x2.toNat default).Due) < 0)))
   (.leaf (.inr (.inl false)))
   (.leaf (.inl (x0,x1,i64.wrap (x2+1),x3)))))
  (.leaf (.inr (.inr x3))))
def zhz (x0:(List Ripe)) (x1 x2:Int) (x3:Consumer):=zdv (fun s:(List Ripe)×Int×Int×Consumer=>(zcn s.1 s.2.1 s.2.2.1 s.2.2.2).run) (x0,x1,x2,x3)
def zaxx:Ann:=⟨[],[],[],zv92,[]⟩
def zaxy:=EndD.mk (LQ.kp 0 0 (LQ.v zub (LQ.v intP (LQ.v intP (LP.q z6))))) ⟨[1,93,94,95],[.pub 93,.nilsl 93 (.ripes [])]⟩ [.cells 64 22]
def zan8:=EndD.mk (Par.q boolP) ⟨[2],[]⟩ []
def zan9:=EndD.mk (LQ.kp 0 0 (LP.q z6)) ⟨[1],[]⟩ [.cells 64 22]
def zar9:St→Option LR:=L2 117 4 0 zaxy .ret zan8 (.exit 2) zan9 (u4 zcn)
def zs92b:=sub (fb Tryz.f74) [0,1,0,1,1,1]
theorem zaxz:zo (zy92).env 0 zs92b zar9 :=
 zpm (A:=zaxx) zh92 fM trivial (k:=zb5 zs92b) (by kernel_rfl) rfl rfl (by rintro ⟨x0,x1,x2,x3⟩;kernel_rfl)
def zne (a0:Consumer): Tr (Bool) :=
 (.guard (((((((((a0.On&&a0.Gone)||(decide (a0.Height < 0)))||(decide (a0.Height≥1099511627776)))||(decide (a0.Time < 0)))||(decide (a0.Time > 1099511627776)))||(decide (a0.Id < 0)))||(decide (a0.Id > 1099511627776)))=false→((zdy a0.Out).isSome=true)∧True))
 (.ite ((((((((a0.On&&a0.Gone)||(decide (a0.Height < 0)))||(decide (a0.Height≥1099511627776)))||(decide (a0.Time < 0)))||(decide (a0.Time > 1099511627776)))||(decide (a0.Id < 0)))||(decide (a0.Id > 1099511627776)))||(!((zdy a0.Out).getD default)))
  (.leaf false)
  (.two (znd a0.Set ((a0.Set.length:Nat):Int) 0 a0) (fun v1 =>
   (.leaf v1)) (fun v2 =>
   (.two (zhz v2.Ripes ((v2.Ripes.length:Nat):Int) 0 v2) (fun v3 =>
    (.leaf v3)) (fun v4 =>
    (.bind (zbl v4.Pending) fun v5 =>
    (.leaf (!v5)))))))))
def zdt (a0:Consumer):=(zne a0).run
def zgb:SpecT:=zt 0 (Par.q (Par.ofLP z6)) 1 [] zne default (Par.q boolP) 1 []
theorem zhr:zf Tryz.prog 74 (zgb).spec :=
 sK (A:=⟨[([0,1,0,1,1],zar8),([0,1,0,1,1,1],zar9)],[],[],zv92,[]⟩) zh92 fM Tryz.func74 (c:=(fb Tryz.f74)) (by kernel_rfl) (Lc:=0) ⟨zaxw,zaxz,trivial⟩ _ _ 4 _ _ _ _ _ _ [] (by rintro a0;kernel_rfl)
noncomputable def zy93:EnvT:=⟨Tryz.prog,zad [(73,zin)]⟩
theorem zh93:(zy93).Ok:=ze ⟨zo2,trivial⟩
def zlo (a0:(List Power)) (a1 a2:Int): Tr (Consumer) :=
 (.bind (zd7 a0) fun v1 =>
 (.leaf (⟨true,false,0,a2,a1,v1,[],[],(⟨false,false,false,false,false,false⟩:(A6 Bool)),(⟨[],[],0,false⟩:zgz),(⟨0,0,0,0⟩:Head)⟩:Consumer)))
def zgs (a0:(List Power)) (a1 a2:Int):=(zlo a0 a1 a2).run
def zrv:SpecT:=zt 0 (LQ.v zm (LQ.v intP (Par.q intP))) 3 [] (u3 zlo) default (Par.q (Par.ofLP z6)) 1 []
theorem zx7:zf Tryz.prog 48 (zrv).spec :=
 sK (A:=⟨[],[],[],[[0,1,2,6],[6]],[]⟩) zh93 fM Tryz.func48 (c:=(fb Tryz.f48)) (by kernel_rfl) (Lc:=0) trivial _ _ 4 _ _ _ _ _ _ [.pubB 6] (by rintro ⟨a0,a1,a2⟩;kernel_rfl)
noncomputable def zy94:EnvT:=⟨Tryz.prog,zad [(14,zko),(74,zgb),(119,zhg)]⟩
theorem zh94:(zy94).Ok:=ze ⟨zm6,zhr,zn2,trivial⟩
def znf (a0:Consumer) (a1:ByteArray): Tr (Consumer×Int) :=
 (.bind (zcd a1) fun v1 =>
 (.bind (zdt a0) fun v2 =>
 (.ite (!v2)
  (.leaf (a0,2))
  (.ite (!a0.On)
   (.leaf (a0,4))
   (.ite (v1.2 != 0)
    (.leaf (a0,v1.2))
    (.ite (v1.1.Kind != 1)
     (.leaf (a0,3))
     (.guard ((zaz a0.Pending).isSome=true)
     (.guard ((Sl.len (.packets ((zaz a0.Pending).getD default))+Sl.len (.packets [v1.1]))*80≤140737488355328)
     (.leaf ({ a0 with Pending:=((zaz a0.Pending).getD default)++[v1.1] },0))))))))))
def zhs (a0:Consumer) (a1:ByteArray):=(znf a0 a1).run
def zsx:SpecT:=zt 0 (LQ.v (Par.ofLP z6) (Par.q strP)) 2 [] (u2 znf) default (LQ.v (Par.ofLP z6) (Par.q intP)) 2 []
theorem zzc:zf Tryz.prog 81 (zsx).spec :=
 sK (A:=⟨[],[],[],[[1,2,4],[2,4,6,7],[2,4,6,7,13],[4,5],[2,4,6,7,18],[4,5],[2,4,6,7,23],[4,5],[2,4,6,28],[4,5],[2,4],[4,5]],[]⟩) zh94 fM Tryz.func81 (c:=(fb Tryz.f81)) (by kernel_rfl) (Lc:=0) trivial _ _ 8 _ _ _ _ _ _ [.pubB 4] (by rintro ⟨a0,a1⟩;kernel_rfl)
noncomputable def zy95:EnvT:=⟨Tryz.prog,zad [(113,zkn),(114,zx5)]⟩
theorem zh95:(zy95).Ok:=ze ⟨zm5,z0y,trivial⟩
def zo9 (a0:Packet) (a1:Int) (a2:Consumer): Tr (Int×Consumer) :=
 (.bind (za5 a0) fun v1 =>
 (.ite (v1.2 != 0)
  (.leaf (v1.2,a2))
  (.bind (zq5 a2.Out v1.1 (i64.wrap (a1+40))) fun v2 =>
  (.ite (v2.2 != 0)
   (.leaf (v2.2,a2))
   (.leaf (0,{ a2 with Out:=v2.1 }))))))
def za6 (a0:Packet) (a1:Int) (a2:Consumer):=(zo9 a0 a1 a2).run
def zkp:SpecT:=zt 1 (LQ.kp 0 0 (LQ.v (Par.ofLP zjq) (LQ.v intP (LP.q z6)))) 3 [.cells 64 22] (u3 zo9) default (LQ.v intP (LP.q z6)) 1 [.cells 64 22]
theorem zng:zf Tryz.prog 77 (zkp).spec :=
 sK (A:=⟨[],[],[],[[0,2,4],[0,2,7,8],[0,2,7,8,16],[6],[0,8,9],[0,8,9,30],[6],[],[6]],[]⟩) zh95 fM Tryz.func77 (c:=(fb Tryz.f77)) (by kernel_rfl) (Lc:=1) trivial _ _ 5 _ _ _ _ _ _ [.pubN 0] (by rintro ⟨a0,a1,a2⟩;kernel_rfl)
def zv96:List (List Nat):=[[0,1],[1,7,8,9],[1,7,8,9,10],[1,6,7,8,9],[1,6,7,8,9,16],[4],[1,7,8,9],[4]]
def zc8 (x0:Int) (x1:(List Power)) (x2 x3:Int): Tr ((Int×(List Power)×Int×Int)⊕((Int)⊕(Unit))) :=
 (.ite (decide (x3 < x2))
  (.guard ((0:Int)≤x3∧x3 < ((Sl.len (.powers x1):Nat):Int))
  (.ite (((x1.getD x3.toNat default).V)==x0)
   (.leaf (.inr (.inl ((x1.getD x3.toNat default).N))))
   (.leaf (.inl (x0,x1,x2,i64.wrap (x3+1))))))
  (.leaf (.inr (.inr ()))))
def zl0 (x0:Int) (x1:(List Power)) (x2 x3:Int):=zdv (fun s:Int×(List Power)×Int×Int=>(zc8 s.1 s.2.1 s.2.2.1 s.2.2.2).run) (x0,x1,x2,x3)
def zax0:Ann:=⟨[],[],[],zv96,[]⟩
def zax1:=EndD.mk (LQ.v intP (LQ.v zm (LQ.v intP (Par.q intP)))) ⟨[1,7,8,9],[.pub 7,.nilsl 7 (.powers [])]⟩ []
def zaoa:=EndD.mk (Par.q intP) ⟨[4],[]⟩ []
def zaob:EndD (Unit):=⟨LQ.nil,⟨[],[]⟩,[]⟩
def zasa:St→Option LR:=L2 20 3 0 zax1 .ret zaoa (.exit 0) zaob (u4 zc8)
def zs96a:=sub (fb Tryz.f85) [0,1,0,1]
theorem zax2:zo (zyN).env 0 zs96a zasa :=
 zpm (A:=zax0) zhN fM trivial (k:=zb5 zs96a) (by kernel_rfl) rfl rfl (by rintro ⟨x0,x1,x2,x3⟩;kernel_rfl)
def zlp (a0:(List Power)) (a1:Int): Tr (Int) :=
 (.two (zl0 a1 a0 ((a0.length:Nat):Int) 0) (fun v1 =>
  (.leaf v1)) (fun v2 =>
  (.leaf 0)))
def z8 (a0:(List Power)) (a1:Int):=(zlp a0 a1).run
def zlq:SpecT:=zt 0 (LQ.v zm (Par.q intP)) 2 [] (u2 zlp) default (Par.q intP) 1 []
theorem zp1:zf Tryz.prog 85 (zlq).spec :=
 sK (A:=⟨[([0,1,0,1],zasa)],[],[],zv96,[]⟩) zhN fM Tryz.func85 (c:=(fb Tryz.f85)) (by kernel_rfl) (Lc:=0) ⟨zax2,trivial⟩ _ _ 3 _ _ _ _ _ _ [] (by rintro ⟨a0,a1⟩;kernel_rfl)
def zv97:List (List Nat):=[[1,2,4],[1,2,4,10],[4,5],[1,2,4,15],[4,5],[1,2,4,20],[4,5],[1,2,4],[1,2,4],[1,2,4,41,42,43],[1,2,4,41,42,43,44],[1,2,4,7,41,42,43],[1,2,4,7,41,42,43],[1,2,4,7,41,42,43],[1,2,4,7,41,42,43,57,58,59],[1,2,4,7,41,42,43,57,58,59,60],[1,2,4,7,9,41,42,43,57,58,59],[1,2,4,7,41,42,43,57,58,59],[1,2,4,7,41,42,43,57,58,59],[1,2,4,41,42,43],[1,2,4,41,42,43],[1,2,4],[1,2,4,91],[1,2,4,100],[1,2,4],[4,5]]
noncomputable def zy97:EnvT:=⟨Tryz.prog,zad [(74,zgb),(75,ziy),(76,zw6),(77,zkp)]⟩
theorem zh97:(zy97).Ok:=ze ⟨zhr,zpz,z23,zng,trivial⟩
def zeq (x0:Int) (x1:(List Packet)) (x2 x3:Int) (x4:(List Int)) (x5 x6:Int) (x7 x8:Consumer) (x9:Packet): Tr ((Int×(List Packet)×Int×Int×(List Int)×Int×Int×Consumer×Consumer×Packet)⊕(Int×(List Packet)×Int×Int×Consumer×Consumer×Packet)) :=
 (.ite (decide (x6 < x5))
  (.guard ((0:Int)≤x6∧x6 < ((Sl.len (.ints x4):Nat):Int))
  (.guard ((0:Int)≤(x4.getD x6.toNat 0)∧((x4.getD x6.toNat 0):Int) < 6)
  (.leaf (.inl (x0,x1,x2,x3,x4,x5,i64.wrap (x6+1),{ x7 with Flags:=(x7.Flags.set (x4.getD x6.toNat 0) false) },x8,x9)))))
  (.leaf (.inr (x0,x1,x2,x3,x7,x8,x9))))
def zi8 (x0:Int) (x1:(List Packet)) (x2 x3:Int) (x4:(List Int)) (x5 x6:Int) (x7 x8:Consumer) (x9:Packet):=zdv (fun s:Int×(List Packet)×Int×Int×(List Int)×Int×Int×Consumer×Consumer×Packet=>(zeq s.1 s.2.1 s.2.2.1 s.2.2.2.1 s.2.2.2.2.1 s.2.2.2.2.2.1 s.2.2.2.2.2.2.1 s.2.2.2.2.2.2.2.1 s.2.2.2.2.2.2.2.2.1 s.2.2.2.2.2.2.2.2.2).run) (x0,x1,x2,x3,x4,x5,x6,x7,x8,x9)
def zax3:Ann:=⟨[],[],[],zv97,[(23,[800002])]⟩
def zax4:=EndD.mk (LQ.map (LQ.v intP (LQ.kp 0 0 (LQ.kp 1 0 (LQ.kp 2 0 (LQ.v zdd (LQ.v intP (LQ.v intP (LQ.v zf5 (LQ.v intP (LQ.v intP (LQ.v boolP (LQ.v boolP (LQ.v intP (LQ.v intP (LQ.v intP (LQ.v zm (LQ.v zdd (LQ.k (LQ.c (.own 3)) (LQ.seq (LP.q (a6L (LP.one boolP))) (LQ.seq (LP.q lineL) (LQ.seq (LP.q z4l) (LQ.seq (LP.q z6) (LQ.seq (LP.q zjq) (Par.q zub)))))))))))))))))))))))) (fun x=>(x.1,x.2.1,x.2.2.1,x.2.2.2.1,(d4 x).1,(d4 x).2.1,(d4 x).2.2.1,(⟨(d4 x).2.2.2.1,(d8 x).1,(d8 x).2.1,(d8 x).2.2.1,(d8 x).2.2.2.1,(d12 x).1,(d12 x).2.1,(d16 x).2.2.2,(d12 x).2.2.1,(d12 x).2.2.2.1,(d16 x).1⟩:Consumer),(d16 x).2.1,(d16 x).2.2.1)) (fun y=>(y.1,y.2.1,y.2.2.1,y.2.2.2.1,(d4 y).1,(d4 y).2.1,(d4 y).2.2.1,(d4 y).2.2.2.1.On,(d4 y).2.2.2.1.Gone,(d4 y).2.2.2.1.Height,(d4 y).2.2.2.1.Time,(d4 y).2.2.2.1.Id,(d4 y).2.2.2.1.Set,(d4 y).2.2.2.1.Pending,(d4 y).2.2.2.1.Flags,(d4 y).2.2.2.1.Out,(d4 y).2.2.2.1.Seen,(d8 y).1,(d8 y).2,(d4 y).2.2.2.1.Ripes)) (fun _=>rfl)) ⟨[1,2,4,7,41,42,43,57,58,59],[.nilcell 2 7 93 (.ripes []),.pub 41,.nilsl 41 (.packets []),.pub 57,.nilsl 57 (.ints [])]⟩ [.cells 64 22,.cells 64 22,.cells 73 6,.rows 93]
def zaoc:=EndD.mk (LQ.map (LQ.v intP (LQ.kp 0 0 (LQ.kp 1 0 (LQ.kp 2 0 (LQ.v zdd (LQ.v intP (LQ.v intP (LQ.v boolP (LQ.v boolP (LQ.v intP (LQ.v intP (LQ.v intP (LQ.v zm (LQ.v zdd (LQ.k (LQ.c (.own 3)) (LQ.seq (LP.q (a6L (LP.one boolP))) (LQ.seq (LP.q lineL) (LQ.seq (LP.q z4l) (LQ.seq (LP.q z6) (LQ.seq (LP.q zjq) (Par.q zub))))))))))))))))))))) (fun x=>(x.1,x.2.1,x.2.2.1,x.2.2.2.1,(⟨(d4 x).1,(d4 x).2.1,(d4 x).2.2.1,(d4 x).2.2.2.1,(d8 x).1,(d8 x).2.1,(d8 x).2.2.1,(d16 x),(d8 x).2.2.2.1,(d12 x).1,(d12 x).2.1⟩:Consumer),(d12 x).2.2.1,(d12 x).2.2.2.1)) (fun y=>(y.1,y.2.1,y.2.2.1,y.2.2.2.1,(d4 y).1.On,(d4 y).1.Gone,(d4 y).1.Height,(d4 y).1.Time,(d4 y).1.Id,(d4 y).1.Set,(d4 y).1.Pending,(d4 y).1.Flags,(d4 y).1.Out,(d4 y).1.Seen,(d4 y).2.1,(d4 y).2.2,(d4 y).1.Ripes)) (fun _=>rfl)) ⟨[1,2,4,7,41,42,43],[.nilcell 2 7 93 (.ripes []),.pub 41,.nilsl 41 (.packets [])]⟩ [.cells 64 22,.cells 64 22,.cells 73 6,.rows 93]
def zasb:St→Option LR:=L1 106 8 0 zax4 (.exit 3) zaoc (u10 zeq)
def zs97a:=sub (fb Tryz.f49) [0,1,0,1,1,1,0,0,1,1,0,0,1,0,1,1,1,1]
theorem zax5:zo (zy97).env 0 zs97a zasb :=
 zf4 (A:=zax3) zh97 fM trivial (k:=zb5 zs97a) (by kernel_rfl) rfl (by rintro ⟨x0,x1,x2,x3,x4,x5,x6,x7,x8,x9⟩;kernel_rfl)
def zer (x0:Int) (x1:(List Packet)) (x2 x3:Int) (x4 x5:Consumer): Tr ((Int×(List Packet)×Int×Int×Consumer×Consumer)⊕(Int×Consumer×Consumer)) :=
 (.ite (decide (x3 < x2))
  (.guard ((0:Int)≤x3∧x3 < ((Sl.len (.packets x1):Nat):Int))
  (.bind (zo8 x4.Set ((x1.getD x3.toNat default).Set)) fun v3 =>
  (.bind (zi8 x0 x1 x2 x3 ((x1.getD x3.toNat default).Done) ((((x1.getD x3.toNat default).Done).length:Nat):Int) 0 ({ x4 with Id:=(x1.getD x3.toNat default).Id,Set:=v3 }) x5 (x1.getD x3.toNat default)) fun v4 =>
  (.guard ((Sl.len (.ripes v4.2.2.2.2.1.Ripes)+Sl.len (.ripes [(⟨v4.2.2.2.2.2.2.Id,i64.wrap (v4.1+15)⟩:Ripe)]))*16≤140737488355328)
  (.leaf (.inl (v4.1,v4.2.1,v4.2.2.1,i64.wrap (v4.2.2.2.1+1),{ v4.2.2.2.2.1 with Ripes:=v4.2.2.2.2.1.Ripes++[(⟨v4.2.2.2.2.2.2.Id,i64.wrap (v4.1+15)⟩:Ripe)] },v4.2.2.2.2.2.1)))))))
  (.leaf (.inr (x0,x4,x5))))
def zi9 (x0:Int) (x1:(List Packet)) (x2 x3:Int) (x4 x5:Consumer):=zdv (fun s:Int×(List Packet)×Int×Int×Consumer×Consumer=>(zer s.1 s.2.1 s.2.2.1 s.2.2.2.1 s.2.2.2.2.1 s.2.2.2.2.2).run) (x0,x1,x2,x3,x4,x5)
def zax6:Ann:=⟨[([0,1,0,1,1,1,0,0,1,1,0,0,1,0,1,1,1,1],zasb)],[],[],zv97,[(23,[800002])]⟩
def zax7:=EndD.mk (LQ.map (LQ.v intP (LQ.kp 0 0 (LQ.kp 1 0 (LQ.v zdd (LQ.v intP (LQ.v intP (LQ.v boolP (LQ.v boolP (LQ.v intP (LQ.v intP (LQ.v intP (LQ.v zm (LQ.v zdd (LQ.k (LQ.c (.own 2)) (LQ.seq (LP.q (a6L (LP.one boolP))) (LQ.seq (LP.q lineL) (LQ.seq (LP.q z4l) (LQ.seq (LP.q z6) (Par.q zub))))))))))))))))))) (fun x=>(x.1,x.2.1,x.2.2.1,x.2.2.2.1,(⟨(d4 x).1,(d4 x).2.1,(d4 x).2.2.1,(d4 x).2.2.2.1,(d8 x).1,(d8 x).2.1,(d8 x).2.2.1,(d12 x).2.2.2,(d8 x).2.2.2.1,(d12 x).1,(d12 x).2.1⟩:Consumer),(d12 x).2.2.1)) (fun y=>(y.1,y.2.1,y.2.2.1,y.2.2.2.1,(d4 y).1.On,(d4 y).1.Gone,(d4 y).1.Height,(d4 y).1.Time,(d4 y).1.Id,(d4 y).1.Set,(d4 y).1.Pending,(d4 y).1.Flags,(d4 y).1.Out,(d4 y).1.Seen,(d4 y).2,(d4 y).1.Ripes)) (fun _=>rfl)) ⟨[1,2,4,41,42,43],[.nilcell 2 7 93 (.ripes []),.pub 41,.nilsl 41 (.packets [])]⟩ [.cells 64 22,.cells 64 22,.rows 93]
def zaod:=EndD.mk (LQ.map (LQ.v intP (LQ.kp 0 0 (LQ.kp 1 0 (LQ.v boolP (LQ.v boolP (LQ.v intP (LQ.v intP (LQ.v intP (LQ.v zm (LQ.v zdd (LQ.k (LQ.c (.own 2)) (LQ.seq (LP.q (a6L (LP.one boolP))) (LQ.seq (LP.q lineL) (LQ.seq (LP.q z4l) (LQ.seq (LP.q z6) (Par.q zub)))))))))))))))) (fun x=>(x.1,(⟨x.2.1,x.2.2.1,x.2.2.2.1,(d4 x).1,(d4 x).2.1,(d4 x).2.2.1,(d4 x).2.2.2.1,(d12 x),(d8 x).1,(d8 x).2.1,(d8 x).2.2.1⟩:Consumer),(d8 x).2.2.2.1)) (fun y=>(y.1,y.2.1.On,y.2.1.Gone,y.2.1.Height,y.2.1.Time,y.2.1.Id,y.2.1.Set,y.2.1.Pending,y.2.1.Flags,y.2.1.Out,y.2.1.Seen,y.2.2,y.2.1.Ripes)) (fun _=>rfl)) ⟨[1,2,4],[.nilcell 2 7 93 (.ripes [])]⟩ [.cells 64 22,.cells 64 22,.rows 93]
def zasc:St→Option LR:=L1 106 8 0 zax7 (.exit 1) zaod (u6 zer)
def zs97b:=sub (fb Tryz.f49) [0,1,0,1,1,1,1]
theorem zax8:zo (zy97).env 0 zs97b zasc :=
 zf4 (A:=zax6) zh97 fM ⟨zax5,trivial⟩ (k:=zb5 zs97b) (by kernel_rfl) rfl (by rintro ⟨x0,x1,x2,x3,x4,x5⟩;kernel_rfl)
def zc5 (x0:Int) (x1 x2:Consumer): Tr ((Int×Consumer×Consumer)⊕(Consumer×Consumer)) :=
 (.guard (((decide (((x1.Ripes.length:Nat):Int) > 0))=true→((0:Int)≤0∧0 < ((Sl.len (.ripes x1.Ripes):Nat):Int))∧True))
 (.ite ((decide (((x1.Ripes.length:Nat):Int) > 0))&&(decide (((x1.Ripes.getD 0 default).Due)≤x0)))
  (.guard ((0:Int)≤0∧0 < ((Sl.len (.ripes x1.Ripes):Nat):Int))
  (.bind (za6 (⟨2,(x1.Ripes.getD 0 default).Id,0,0,[],[]⟩:Packet) x0 x1) fun v6 =>
  (.ite (v6.1 != 0)
   (.leaf (.inr (v6.2,x2)))
   (.guard ((0:Int)≤1∧1≤(((Sl.len (.ripes v6.2.Ripes):Nat):Int):Int)∧((Sl.len (.ripes v6.2.Ripes):Nat):Int)≤((Sl.len (.ripes v6.2.Ripes):Nat):Int))
   (.leaf (.inl (x0,{ v6.2 with Ripes:=((v6.2.Ripes.drop 1).take ((((Sl.len (.ripes v6.2.Ripes):Nat):Int)).toNat - 1)) },x2)))))))
  (.leaf (.inr (x1,x2)))))
def zbm (x0:Int) (x1 x2:Consumer):=zdv (fun s:Int×Consumer×Consumer=>(zc5 s.1 s.2.1 s.2.2).run) (x0,x1,x2)
def zax9:Ann:=⟨[],[],[],zv97,[(23,[800002])]⟩
def zaya:=EndD.mk (LQ.v intP (LQ.kp 0 0 (LQ.kp 1 0 (LQ.seq (LP.q z6) (LP.q z6))))) ⟨[1,2,4],[.pubC 2 6,.pubC 2 7]⟩ [.cells 64 22,.cells 64 22]
def zaoe:=EndD.mk (LQ.kp 0 0 (LQ.kp 1 0 (LQ.seq (LP.q z6) (LP.q z6)))) ⟨[2,4],[.pubC 2 6,.pubC 2 7]⟩ [.cells 64 22,.cells 64 22]
def zasd:St→Option LR:=L1 106 8 0 zaya (.exit 5) zaoe (u3 zc5)
def zs97c:=sub (fb Tryz.f49) [0,0,1,1,1,1,1,1]
theorem zayb:zo (zy97).env 0 zs97c zasd :=
 zf4 (A:=zax9) zh97 fM trivial (k:=zb5 zs97c) (by kernel_rfl) rfl (by rintro ⟨x0,x1,x2⟩;kernel_rfl)
def zpa (a0:Consumer) (a1:Int): Tr (Consumer×Int) :=
 (.bind (zdt a0) fun v1 =>
 (.ite (!v1)
  (.leaf (a0,2))
  (.ite (!a0.On)
   (.leaf (a0,4))
   (.ite ((decide (a1 < a0.Time))||(decide (a1 > 1099511627776)))
    (.leaf (a0,2))
    (.bind (zek a0.Ripes) fun v2 =>
    (.bind (zi9 a1 a0.Pending ((a0.Pending.length:Nat):Int) 0 ({ a0 with Height:=i64.wrap (a0.Height+1),Time:=a1,Ripes:=v2 }) (default:Consumer)) fun v5 =>
    (.bind (zbm v5.1 ({ v5.2.1 with Pending:=[] }) v5.2.2) fun v7 =>
    (.leaf (v7.1,0)))))))))
def zu (a0:Consumer) (a1:Int):=(zpa a0 a1).run
def zum:SpecT:=zt 0 (LQ.v (Par.ofLP z6) (Par.q intP)) 2 [] (u2 zpa) default (LQ.v (Par.ofLP z6) (Par.q intP)) 2 []
theorem z07:zf Tryz.prog 49 (zum).spec :=
 sK (A:=⟨[([0,1,0,1,1,1,1],zasc),([0,0,1,1,1,1,1,1],zasd)],[],[],zv97,[(23,[800002])]⟩) zh97 fM Tryz.func49 (c:=(fb Tryz.f49)) (by kernel_rfl) (Lc:=0) ⟨zax8,zayb,trivial⟩ _ _ 8 _ _ _ _ _ _ [.pubB 4] (by rintro ⟨a0,a1⟩;kernel_rfl)
noncomputable def zy98:EnvT:=⟨Tryz.prog,zad [(74,zgb),(85,zlq),(77,zkp)]⟩
theorem zh98:(zy98).Ok:=ze ⟨zhr,zp1,zng,trivial⟩
def znh (a0:Consumer) (a1 a2:Int): Tr (Consumer×Int) :=
 (.bind (zdt a0) fun v1 =>
 (.ite (((!v1)||(decide (a2 < 0)))||(decide (a2 > 1099511627776)))
  (.leaf (a0,2))
  (.guard (((((!a0.On)||(decide (a1 < 0)))||(decide (a1≥6)))=false→((z8 a0.Set a1).isSome=true)∧True))
  (.ite ((((!a0.On)||(decide (a1 < 0)))||(decide (a1≥6)))||(((z8 a0.Set a1).getD default)==0))
   (.leaf (a0,4))
   (.guard ((0:Int)≤a1∧(a1:Int) < 6)
   (.ite (a0.Flags.get a1)
    (.leaf (a0,5))
    (.guard ((z8 a0.Set a1).isSome=true)
    (.guard ((za6 (⟨3,a0.Id,a1,((z8 a0.Set a1).getD default),[],[]⟩:Packet) a2 a0).isSome=true)
    (.ite ((((za6 (⟨3,a0.Id,a1,((z8 a0.Set a1).getD default),[],[]⟩:Packet) a2 a0).getD default).1) != 0)
     (.leaf ((((za6 (⟨3,a0.Id,a1,((z8 a0.Set a1).getD default),[],[]⟩:Packet) a2 a0).getD default).2),((za6 (⟨3,a0.Id,a1,((z8 a0.Set a1).getD default),[],[]⟩:Packet) a2 a0).getD default).1))
     (.guard ((0:Int)≤a1∧(a1:Int) < 6)
     (.leaf ({ ((((za6 (⟨3,a0.Id,a1,((z8 a0.Set a1).getD default),[],[]⟩:Packet) a2 a0).getD default).2):Consumer) with Flags:=(((((za6 (⟨3,a0.Id,a1,((z8 a0.Set a1).getD default),[],[]⟩:Packet) a2 a0).getD default).2).Flags).set a1 true) },0))))))))))))
def zdu (a0:Consumer) (a1 a2:Int):=(znh a0 a1 a2).run
def zsy:SpecT:=zt 0 (LQ.v (Par.ofLP z6) (LQ.v intP (Par.q intP))) 3 [] (u3 znh) default (LQ.v (Par.ofLP z6) (Par.q intP)) 2 []
theorem zzd:zf Tryz.prog 52 (zsy).spec :=
 sK (A:=⟨[],[],[],[[1,2,3,6],[1,2,3,6,9],[6,7],[1,2,3,6,22],[6,7],[1,2,3,6,42],[6,7],[1,3,6,8],[1,3,6,8,59],[6,7],[3,6],[6,7]],[]⟩) zh98 fM Tryz.func52 (c:=(fb Tryz.f52)) (by kernel_rfl) (Lc:=0) trivial _ _ 4 _ _ _ _ _ _ [.pubB 6] (by rintro ⟨a0,a1,a2⟩;kernel_rfl)
noncomputable def zy99:EnvT:=⟨Tryz.prog,zad [(74,zgb),(85,zlq),(77,zkp)]⟩
theorem zh99:(zy99).Ok:=ze ⟨zhr,zp1,zng,trivial⟩
def zj5 (a0:Consumer) (a1 a2 a3:Int): Tr (Consumer×Int) :=
 (.bind (zdt a0) fun v1 =>
 (.ite (((!v1)||(decide (a3 < 0)))||(decide (a3 > 1099511627776)))
  (.leaf (a0,2))
  (.ite (((!a0.On)||(decide (a1 < 0)))||(decide (a1≥6)))
   (.leaf (a0,4))
   (.ite ((decide (a2 < 1))||(decide (a2 > a0.Id)))
    (.leaf (a0,2))
    (.bind (z8 a0.Set a1) fun v2 =>
    (.bind (za6 (⟨4,a2,a1,if v2 > 1 then v2 else 1,[],[]⟩:Packet) a3 a0) fun v3 =>
    (.ite (v3.1 != 0)
     (.leaf (v3.2,v3.1))
     (.leaf (v3.2,0)))))))))
def zco (a0:Consumer) (a1 a2 a3:Int):=(zj5 a0 a1 a2 a3).run
def zp2:SpecT:=zt 0 (LQ.v (Par.ofLP z6) (LQ.v intP (LQ.v intP (Par.q intP)))) 4 [] (u4 zj5) default (LQ.v (Par.ofLP z6) (Par.q intP)) 2 []
theorem zw8:zf Tryz.prog 53 (zp2).spec :=
 sK (A:=⟨[],[],[],[[1,2,3,4,8],[1,2,3,4,8,11],[8,9],[1,2,3,4,8,24],[8,9],[1,2,3,4,8,37],[8,9],[4,8,10],[4,8,10,58],[8,9],[8,9]],[]⟩) zh99 fM Tryz.func53 (c:=(fb Tryz.f53)) (by kernel_rfl) (Lc:=0) trivial _ _ 4 _ _ _ _ _ _ [.pubB 8] (by rintro ⟨a0,a1,a2,a3⟩;kernel_rfl)
def zj6 (a0:Consumer): Tr (Consumer) :=
 (.ite (!a0.On)
  (.leaf a0)
  (.leaf ({ a0 with On:=false,Gone:=true,Out:={ a0.Out with Closed:=true } })))
def zfz (a0:Consumer):=(zj6 a0).run
def zp3:SpecT:=zt 0 (Par.q (Par.ofLP z6)) 1 [] zj6 default (Par.q (Par.ofLP z6)) 1 []
theorem zw9:zf Tryz.prog 84 (zp3).spec :=
 sK (A:=⟨[],[],[],[[1,2],[1,2,5],[2],[1,2],[2]],[]⟩) zhN fM Tryz.func84 (c:=(fb Tryz.f84)) (by kernel_rfl) (Lc:=0) trivial _ _ 4 _ _ _ _ _ _ [.pubB 2] (by rintro a0;kernel_rfl)
end
