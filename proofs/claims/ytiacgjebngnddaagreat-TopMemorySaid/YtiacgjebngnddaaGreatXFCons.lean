/-
  The functions, each by its tree.
-/
import Derived.Test.YtiacgjebngnddaaGreatXAbC
import Derived.Test.YtiacgjebngnddaaGreatXFCodec
import Derived.Test.YtiacgjebngnddaaGreatXFLine
import Derived.Test.YtiacgjebngnddaaGreatXFRatio
import Derived.Test.YtiacgjebngnddaaGreatXFStakeB
import Derived.Test.YtiacgjebngnddaaGreatXFacts
namespace Go.Proofs.YtiacgjebngnddaaGreat.Ab
open Go Go.RowKit
open Go.IntKind (i64 u64)
set_option maxRecDepth 100000
set_option linter.unusedVariables false
set_option linter.unusedSimpArgs false
noncomputable section
noncomputable def zy89:EnvT:=⟨Tryz.prog,zad [(29,zmd)],false⟩
theorem zh89:(zy89).Ok:=zf ⟨znt,trivial⟩
def zlb (a0:Packet): Tr (Bool) :=
 (.bind (zfu a0) fun v1 =>
 (.leaf ((v1 != 0)||(a0.Kind != 1))))
def zpv (a0:Packet):=(zlb a0).run
def zri:SpecT:=zu 0 (Par.q (Par.ofLP zjw)) 1 [] zlb default (Par.q boolP) 1 []
theorem zyn:zg Tryz.prog 116 (zri).spec :=
 sK (A:=⟨[],[],[],[[1],[2]],[]⟩) zh89 fM Tryz.func116 (c:=(fb Tryz.f116)) (by kernel_rfl) (Lc:=0) trivial _ _ 3 _ _ _ _ _ _ [] (by rintro a0;kernel_rfl)
def zv90:List (List Nat):=[[0,1],[0,1,7,8],[0,1,7,8,9],[0,1,5,7,8],[0,1,5,7,8,16],[4],[0,1,7,8],[4]]
noncomputable def zy90:EnvT:=⟨Tryz.prog,zad [(116,zri)],false⟩
theorem zh90:(zy90).Ok:=zf ⟨zyn,trivial⟩
def zaj (x0:(List Packet)) (x1 x2:Int): Tr (((List Packet)×Int×Int)⊕((Int)⊕(Unit))) :=
 (.ite (decide (x2 < x1))
  (.guard ((0:Int)≤x2∧x2 < ((Sl.len (.packets x0):Nat):Int))
  (.bind (zpv (x0.getD x2.toNat default)) fun v1 =>
  (.ite (v1)
   (.leaf (.inr (.inl x2)))
   (.leaf (.inl (x0,x1,i64.wrap (x2+1)))))))
  (.leaf (.inr (.inr ()))))
def zee (x0:(List Packet)) (x1 x2:Int):=zcv (fun s:(List Packet)×Int×Int=>(zaj s.1 s.2.1 s.2.2).run) (x0,x1,x2)
def za0z:Ann:=⟨[],[],[],zv90,[]⟩
def za00:=EndD.mk (LQ.v zal (LQ.k (LQ.c (.fn 116 [])) (LQ.v intP (Par.q intP)))) ⟨[0,1,7,8],[.pub 0,.nilsl 0 (.packets [])]⟩ []
def zap6:=EndD.mk (Par.q intP) ⟨[4],[]⟩ []
def zap7:EndD (Unit):=⟨LQ.nil,⟨[],[]⟩,[]⟩
def zatx:St→Option LR:=L2 19 2 0 za00 .ret zap6 (.exit 0) zap7 (u3 zaj)
def zs90a:=sub (fb Tryz.f138) [0,1,0,1]
theorem za01:zl (zy90).env 0 zs90a zatx :=
 zmq (A:=za0z) zh90 fM trivial (k:=za5 zs90a) (by kernel_rfl) rfl rfl (by rintro ⟨x0,x1,x2⟩;kernel_rfl)
def zbk (a0:(List Packet)): Tr (Int) :=
 (.two (zee a0 ((a0.length:Nat):Int) 0) (fun v2 =>
  (.leaf v2)) (fun v3 =>
  (.leaf (-1))))
def zci (a0:(List Packet)):=(zbk a0).run
def zf6:SpecT:=zu 0 (LQ.skipR (Par.q zal) (LQ.c (.fn 116 []))) 2 [] zbk default (Par.q intP) 1 []
theorem zmf:zg Tryz.prog 138 (zf6).spec :=
 sK (A:=⟨[([0,1,0,1],zatx)],[],[],zv90,[]⟩) zh90 fM Tryz.func138 (c:=(fb Tryz.f138)) (by kernel_rfl) (Lc:=0) ⟨za01,trivial⟩ _ _ 2 _ _ _ _ _ _ [] (by rintro a0;kernel_rfl)
noncomputable def zy91:EnvT:=⟨Tryz.prog,zad [(138,zf6)],false⟩
theorem zh91:(zy91).Ok:=zf ⟨zmf,trivial⟩
def zb4 (a0:(List Packet)): Tr (Bool) :=
 (.bind (zci a0) fun v1 =>
 (.leaf (decide (v1≥0))))
def zbu (a0:(List Packet)):=(zb4 a0).run
def zeq:SpecT:=zu 0 (LQ.skipR (Par.q zal) (LQ.c (.fn 116 []))) 2 [] zb4 default (Par.q boolP) 1 []
theorem zkd:zg Tryz.prog 115 (zeq).spec :=
 sK (A:=⟨[],[],[],[[0,1],[4]],[]⟩) zh91 fM Tryz.func115 (c:=(fb Tryz.f115)) (by kernel_rfl) (Lc:=0) trivial _ _ 2 _ _ _ _ _ _ [] (by rintro a0;kernel_rfl)
def zv92:List (List Nat):=[[1],[1,48],[2],[1,50,51,52],[1,50,51,52,53],[1,3,4,50,51,52],[1,50,51,52,90],[2],[1,50,51,52],[1,93,94,95],[1,93,94,95,96],[1,6,93,94,95],[1,93,94,95,111],[2],[1,93,94,95],[2]]
noncomputable def zy92:EnvT:=⟨Tryz.prog,zad [(58,zk6),(115,zeq)],false⟩
theorem zh92:(zy92).Ok:=zf ⟨zmc,zkd,trivial⟩
def zgr (x0:(List Power)) (x1 x2:Int) (x3:zb): Tr (((List Power)×Int×Int×zb)⊕((Bool)⊕(zb))) :=
 (.ite (decide (x2 < x1))
  (.guard ((0:Int)≤x2∧x2 < ((Sl.len (.powers x0):Nat):Int))
  (.guard (((decide (x2 > 0))=true→(((decide (((x0.getD x2.toNat default).V) < 0))||(decide (((x0.getD x2.toNat default).V)≥6)))=false→((0:Int)≤(i64.wrap (x2 - 1))∧(i64.wrap (x2 - 1)) < ((Sl.len (.powers x3.Set):Nat):Int))∧True)))
  (.ite (((((decide (((x0.getD x2.toNat default).V) < 0))||(decide (((x0.getD x2.toNat default).V)≥6)))||((decide (x2 > 0))&&(decide (((x3.Set.getD ((i64.wrap (x2 - 1)).toNat) default).V)≥((x0.getD x2.toNat default).V)))))||(decide (((x0.getD x2.toNat default).N) < 1)))||(decide (((x0.getD x2.toNat default).N) > 1125899906842624)))
   (.leaf (.inr (.inl false)))
   (.leaf (.inl (x0,x1,i64.wrap (x2+1),x3))))))
  (.leaf (.inr (.inr x3))))
def zop (x0:(List Power)) (x1 x2:Int) (x3:zb):=zcv (fun s:(List Power)×Int×Int×zb=>(zgr s.1 s.2.1 s.2.2.1 s.2.2.2).run) (x0,x1,x2,x3)
def za05:Ann:=⟨[],[],[],zv92,[]⟩
def za06:=EndD.mk (LQ.kp 0 0 (LQ.v zd (LQ.v intP (LQ.v intP (LP.q z5))))) ⟨[1,50,51,52],[.pub 50,.nilsl 50 (.powers [])]⟩ [.cells 64 22]
def zap8:=EndD.mk (Par.q boolP) ⟨[2],[]⟩ []
def zap9:=EndD.mk (LQ.kp 0 0 (LP.q z5)) ⟨[1],[]⟩ [.cells 64 22]
def zaty:St→Option LR:=L2 117 4 0 za06 .ret zap8 (.exit 0) zap9 (u4 zgr)
def zs92a:=sub (fb Tryz.f74) [0,1,0,1,1]
theorem za07:zl (zy92).env 0 zs92a zaty :=
 zmq (A:=za05) zh92 fM trivial (k:=za5 zs92a) (by kernel_rfl) rfl rfl (by rintro ⟨x0,x1,x2,x3⟩;kernel_rfl)
def zcx (x0:(List Ripe)) (x1 x2:Int) (x3:zb): Tr (((List Ripe)×Int×Int×zb)⊕((Bool)⊕(zb))) :=
 (.ite (decide (x2 < x1))
  (.guard ((0:Int)≤x2∧x2 < ((Sl.len (.ripes x0):Nat):Int))
  (.ite (((decide (((x0.getD x2.toNat default).Id) < 1))||(decide (((x0.getD x2.toNat default).Id) > 1099511627776)))||(decide (((x0.getD x2.toNat default).Due) < 0)))
   (.leaf (.inr (.inl false)))
   (.leaf (.inl (x0,x1,i64.wrap (x2+1),x3)))))
  (.leaf (.inr (.inr x3))))
def zja (x0:(List Ripe)) (x1 x2:Int) (x3:zb):=zcv (fun s:(List Ripe)×Int×Int×zb=>(zcx s.1 s.2.1 s.2.2.1 s.2.2.2).run) (x0,x1,x2,x3)
def za08:Ann:=⟨[],[],[],zv92,[]⟩
def za09:=EndD.mk (LQ.kp 0 0 (LQ.v zhw (LQ.v intP (LQ.v intP (LP.q z5))))) ⟨[1,93,94,95],[.pub 93,.nilsl 93 (.ripes [])]⟩ [.cells 64 22]
def zaqa:=EndD.mk (Par.q boolP) ⟨[2],[]⟩ []
def zaqb:=EndD.mk (LQ.kp 0 0 (LP.q z5)) ⟨[1],[]⟩ [.cells 64 22]
def zatz:St→Option LR:=L2 117 4 0 za09 .ret zaqa (.exit 2) zaqb (u4 zcx)
def zs92b:=sub (fb Tryz.f74) [0,1,0,1,1,1]
theorem za1a:zl (zy92).env 0 zs92b zatz :=
 zmq (A:=za08) zh92 fM trivial (k:=za5 zs92b) (by kernel_rfl) rfl rfl (by rintro ⟨x0,x1,x2,x3⟩;kernel_rfl)
def zoq (a0:zb): Tr (Bool) :=
 (.guard (((((((((a0.On&&a0.Gone)||(decide (a0.Height < 0)))||(decide (a0.Height≥1099511627776)))||(decide (a0.Time < 0)))||(decide (a0.Time > 1099511627776)))||(decide (a0.Id < 0)))||(decide (a0.Id > 1099511627776)))=false→((zeb a0.Out).isSome=true)∧True))
 (.ite ((((((((a0.On&&a0.Gone)||(decide (a0.Height < 0)))||(decide (a0.Height≥1099511627776)))||(decide (a0.Time < 0)))||(decide (a0.Time > 1099511627776)))||(decide (a0.Id < 0)))||(decide (a0.Id > 1099511627776)))||(!((zeb a0.Out).getD default)))
  (.leaf false)
  (.two (zop a0.Set ((a0.Set.length:Nat):Int) 0 a0) (fun v1 =>
   (.leaf v1)) (fun v2 =>
   (.two (zja v2.Ripes ((v2.Ripes.length:Nat):Int) 0 v2) (fun v3 =>
    (.leaf v3)) (fun v4 =>
    (.bind (zbu v4.Pending) fun v5 =>
    (.leaf (!v5)))))))))
def zd9 (a0:zb):=(zoq a0).run
def zg4:SpecT:=zu 0 (Par.q (Par.ofLP z5)) 1 [] zoq default (Par.q boolP) 1 []
theorem ziy:zg Tryz.prog 74 (zg4).spec :=
 sK (A:=⟨[([0,1,0,1,1],zaty),([0,1,0,1,1,1],zatz)],[],[],zv92,[]⟩) zh92 fM Tryz.func74 (c:=(fb Tryz.f74)) (by kernel_rfl) (Lc:=0) ⟨za07,za1a,trivial⟩ _ _ 4 _ _ _ _ _ _ [] (by rintro a0;kernel_rfl)
noncomputable def zy93:EnvT:=⟨Tryz.prog,zad [(73,zjp)],false⟩
theorem zh93:(zy93).Ok:=zf ⟨zqi,trivial⟩
def zmx (a0:(List Power)) (a1 a2:Int): Tr (zb) :=
 (.bind (zei a0) fun v1 =>
 (.leaf (⟨true,false,0,a2,a1,v1,[],[],(⟨false,false,false,false,false,false⟩:(A6 Bool)),(⟨[],[],0,false⟩:zcd),(⟨0,0,0,0⟩:Head)⟩:zb)))
def zhu (a0:(List Power)) (a1 a2:Int):=(zmx a0 a1 a2).run
def zs6:SpecT:=zu 0 (LQ.v zd (LQ.v intP (Par.q intP))) 3 [] (u3 zmx) default (Par.q (Par.ofLP z5)) 1 []
theorem zzs:zg Tryz.prog 48 (zs6).spec :=
 sK (A:=⟨[],[],[],[[0,1,2,6],[6]],[]⟩) zh93 fM Tryz.func48 (c:=(fb Tryz.f48)) (by kernel_rfl) (Lc:=0) trivial _ _ 4 _ _ _ _ _ _ [.pubB 6] (by rintro ⟨a0,a1,a2⟩;kernel_rfl)
noncomputable def zy94:EnvT:=⟨Tryz.prog,zad [(14,zqn),(74,zg4),(119,zij)],false⟩
theorem zh94:(zy94).Ok:=zf ⟨ztz,ziy,zpb,trivial⟩
def zor (a0:zb) (a1:ByteArray): Tr (zb×Int) :=
 (.bind (ze0 a1) fun v1 =>
 (.bind (zd9 a0) fun v2 =>
 (.ite (!v2)
  (.leaf (a0,2))
  (.ite (!a0.On)
   (.leaf (a0,4))
   (.ite (v1.2 != 0)
    (.leaf (a0,v1.2))
    (.ite (v1.1.Kind != 1)
     (.leaf (a0,3))
     (.guard ((za8 a0.Pending).isSome=true)
     (.guard ((Sl.len (.packets ((za8 a0.Pending).getD default))+Sl.len (.packets [v1.1]))*80≤140737488355328)
     (.leaf ({ a0 with Pending:=((za8 a0.Pending).getD default)++[v1.1] },0))))))))))
def ziz (a0:zb) (a1:ByteArray):=(zor a0 a1).run
def zt9:SpecT:=zu 0 (LQ.v (Par.ofLP z5) (Par.q strP)) 2 [] (u2 zor) default (LQ.v (Par.ofLP z5) (Par.q intP)) 2 []
theorem z0w:zg Tryz.prog 81 (zt9).spec :=
 sK (A:=⟨[],[],[],[[1,2,4],[2,4,6,7],[2,4,6,7,13],[4,5],[2,4,6,7,18],[4,5],[2,4,6,7,23],[4,5],[2,4,6,28],[4,5],[2,4],[4,5]],[]⟩) zh94 fM Tryz.func81 (c:=(fb Tryz.f81)) (by kernel_rfl) (Lc:=0) trivial _ _ 8 _ _ _ _ _ _ [.pubB 4] (by rintro ⟨a0,a1⟩;kernel_rfl)
noncomputable def zy95:EnvT:=⟨Tryz.prog,zad [(113,zl2),(114,zzq)],false⟩
theorem zh95:(zy95).Ok:=zf ⟨zoh,z2f,trivial⟩
def zqq (a0:Packet) (a1:Int) (a2:zb): Tr (Int×zb) :=
 (.bind (zbg a0) fun v1 =>
 (.ite (v1.2 != 0)
  (.leaf (v1.2,a2))
  (.bind (zsk a2.Out v1.1 (i64.wrap (a1+40))) fun v2 =>
  (.ite (v2.2 != 0)
   (.leaf (v2.2,a2))
   (.leaf (0,{ a2 with Out:=v2.1 }))))))
def zbh (a0:Packet) (a1:Int) (a2:zb):=(zqq a0 a1 a2).run
def zl3:SpecT:=zu 1 (LQ.kp 0 0 (LQ.v (Par.ofLP zjw) (LQ.v intP (LP.q z5)))) 3 [.cells 64 22] (u3 zqq) default (LQ.v intP (LP.q z5)) 1 [.cells 64 22]
theorem zos:zg Tryz.prog 77 (zl3).spec :=
 sK (A:=⟨[],[],[],[[0,2,4],[0,2,7,8],[0,2,7,8,16],[6],[0,8,9],[0,8,9,30],[6],[],[6]],[]⟩) zh95 fM Tryz.func77 (c:=(fb Tryz.f77)) (by kernel_rfl) (Lc:=1) trivial _ _ 5 _ _ _ _ _ _ [.pubN 0] (by rintro ⟨a0,a1,a2⟩;kernel_rfl)
def zv96:List (List Nat):=[[0,1],[1,7,8,9],[1,7,8,9,10],[1,6,7,8,9],[1,6,7,8,9,16],[4],[1,7,8,9],[4]]
def zds (x0:Int) (x1:(List Power)) (x2 x3:Int): Tr ((Int×(List Power)×Int×Int)⊕((Int)⊕(Unit))) :=
 (.ite (decide (x3 < x2))
  (.guard ((0:Int)≤x3∧x3 < ((Sl.len (.powers x1):Nat):Int))
  (.ite (((x1.getD x3.toNat default).V)==x0)
   (.leaf (.inr (.inl ((x1.getD x3.toNat default).N))))
   (.leaf (.inl (x0,x1,x2,i64.wrap (x3+1))))))
  (.leaf (.inr (.inr ()))))
def zna (x0:Int) (x1:(List Power)) (x2 x3:Int):=zcv (fun s:Int×(List Power)×Int×Int=>(zds s.1 s.2.1 s.2.2.1 s.2.2.2).run) (x0,x1,x2,x3)
def za1b:Ann:=⟨[],[],[],zv96,[]⟩
def za1c:=EndD.mk (LQ.v intP (LQ.v zd (LQ.v intP (Par.q intP)))) ⟨[1,7,8,9],[.pub 7,.nilsl 7 (.powers [])]⟩ []
def zaqc:=EndD.mk (Par.q intP) ⟨[4],[]⟩ []
def zaqd:EndD (Unit):=⟨LQ.nil,⟨[],[]⟩,[]⟩
def zat0:St→Option LR:=L2 20 3 0 za1c .ret zaqc (.exit 0) zaqd (u4 zds)
def zs96a:=sub (fb Tryz.f85) [0,1,0,1]
theorem za1d:zl (zyN).env 0 zs96a zat0 :=
 zmq (A:=za1b) zhN fM trivial (k:=za5 zs96a) (by kernel_rfl) rfl rfl (by rintro ⟨x0,x1,x2,x3⟩;kernel_rfl)
def zmy (a0:(List Power)) (a1:Int): Tr (Int) :=
 (.two (zna a1 a0 ((a0.length:Nat):Int) 0) (fun v1 =>
  (.leaf v1)) (fun v2 =>
  (.leaf 0)))
def zaf (a0:(List Power)) (a1:Int):=(zmy a0 a1).run
def zmz:SpecT:=zu 0 (LQ.v zd (Par.q intP)) 2 [] (u2 zmy) default (Par.q intP) 1 []
theorem zrj:zg Tryz.prog 85 (zmz).spec :=
 sK (A:=⟨[([0,1,0,1],zat0)],[],[],zv96,[]⟩) zhN fM Tryz.func85 (c:=(fb Tryz.f85)) (by kernel_rfl) (Lc:=0) ⟨za1d,trivial⟩ _ _ 3 _ _ _ _ _ _ [] (by rintro ⟨a0,a1⟩;kernel_rfl)
def zv97:List (List Nat):=[[1,2,4],[1,2,4,10],[4,5],[1,2,4,15],[4,5],[1,2,4,20],[4,5],[1,2,4],[1,2,4],[1,2,4,41,42,43],[1,2,4,41,42,43,44],[1,2,4,7,41,42,43],[1,2,4,7,41,42,43],[1,2,4,7,41,42,43],[1,2,4,7,41,42,43,57,58,59],[1,2,4,7,41,42,43,57,58,59,60],[1,2,4,7,9,41,42,43,57,58,59],[1,2,4,7,41,42,43,57,58,59],[1,2,4,7,41,42,43,57,58,59],[1,2,4,41,42,43],[1,2,4,41,42,43],[1,2,4],[1,2,4,91],[1,2,4,100],[1,2,4],[4,5]]
noncomputable def zy97:EnvT:=⟨Tryz.prog,zad [(74,zg4),(75,zj4),(76,zym),(77,zl3)],false⟩
theorem zh97:(zy97).Ok:=zf ⟨ziy,zrh,z4o,zos,trivial⟩
def ze3 (x0:Int) (x1:(List Packet)) (x2 x3:Int) (x4:(List Int)) (x5 x6:Int) (x7 x8:zb) (x9:Packet): Tr ((Int×(List Packet)×Int×Int×(List Int)×Int×Int×zb×zb×Packet)⊕(Int×(List Packet)×Int×Int×zb×zb×Packet)) :=
 (.ite (decide (x6 < x5))
  (.guard ((0:Int)≤x6∧x6 < ((Sl.len (.ints x4):Nat):Int))
  (.guard ((0:Int)≤(x4.getD x6.toNat 0)∧((x4.getD x6.toNat 0):Int) < 6)
  (.leaf (.inl (x0,x1,x2,x3,x4,x5,i64.wrap (x6+1),{ x7 with Flags:=(x7.Flags.set (x4.getD x6.toNat 0) false) },x8,x9)))))
  (.leaf (.inr (x0,x1,x2,x3,x7,x8,x9))))
def zke (x0:Int) (x1:(List Packet)) (x2 x3:Int) (x4:(List Int)) (x5 x6:Int) (x7 x8:zb) (x9:Packet):=zcv (fun s:Int×(List Packet)×Int×Int×(List Int)×Int×Int×zb×zb×Packet=>(ze3 s.1 s.2.1 s.2.2.1 s.2.2.2.1 s.2.2.2.2.1 s.2.2.2.2.2.1 s.2.2.2.2.2.2.1 s.2.2.2.2.2.2.2.1 s.2.2.2.2.2.2.2.2.1 s.2.2.2.2.2.2.2.2.2).run) (x0,x1,x2,x3,x4,x5,x6,x7,x8,x9)
def za1e:Ann:=⟨[],[],[],zv97,[(23,[800002])]⟩
def za1f:=EndD.mk (LQ.map (LQ.v intP (LQ.kp 0 0 (LQ.kp 1 0 (LQ.kp 2 0 (LQ.v zal (LQ.v intP (LQ.v intP (LQ.v zt (LQ.v intP (LQ.v intP (LQ.v boolP (LQ.v boolP (LQ.v intP (LQ.v intP (LQ.v intP (LQ.v zd (LQ.v zal (LQ.k (LQ.c (.own 3)) (LQ.seq (LP.q (a6L (LP.one boolP))) (LQ.seq (LP.q lineL) (LQ.seq (LP.q zp6) (LQ.seq (LP.q z5) (LQ.seq (LP.q zjw) (Par.q zhw)))))))))))))))))))))))) (fun x=>(x.1,x.2.1,x.2.2.1,x.2.2.2.1,(d4 x).1,(d4 x).2.1,(d4 x).2.2.1,(⟨(d4 x).2.2.2.1,(d8 x).1,(d8 x).2.1,(d8 x).2.2.1,(d8 x).2.2.2.1,(d12 x).1,(d12 x).2.1,(d16 x).2.2.2,(d12 x).2.2.1,(d12 x).2.2.2.1,(d16 x).1⟩:zb),(d16 x).2.1,(d16 x).2.2.1)) (fun y=>(y.1,y.2.1,y.2.2.1,y.2.2.2.1,(d4 y).1,(d4 y).2.1,(d4 y).2.2.1,(d4 y).2.2.2.1.On,(d4 y).2.2.2.1.Gone,(d4 y).2.2.2.1.Height,(d4 y).2.2.2.1.Time,(d4 y).2.2.2.1.Id,(d4 y).2.2.2.1.Set,(d4 y).2.2.2.1.Pending,(d4 y).2.2.2.1.Flags,(d4 y).2.2.2.1.Out,(d4 y).2.2.2.1.Seen,(d8 y).1,(d8 y).2,(d4 y).2.2.2.1.Ripes)) (fun _=>rfl)) ⟨[1,2,4,7,41,42,43,57,58,59],[.nilcell 2 7 93 (.ripes []),.pub 41,.nilsl 41 (.packets []),.pub 57,.nilsl 57 (.ints [])]⟩ [.cells 64 22,.cells 64 22,.cells 73 6,.rows 93]
def zaqe:=EndD.mk (LQ.map (LQ.v intP (LQ.kp 0 0 (LQ.kp 1 0 (LQ.kp 2 0 (LQ.v zal (LQ.v intP (LQ.v intP (LQ.v boolP (LQ.v boolP (LQ.v intP (LQ.v intP (LQ.v intP (LQ.v zd (LQ.v zal (LQ.k (LQ.c (.own 3)) (LQ.seq (LP.q (a6L (LP.one boolP))) (LQ.seq (LP.q lineL) (LQ.seq (LP.q zp6) (LQ.seq (LP.q z5) (LQ.seq (LP.q zjw) (Par.q zhw))))))))))))))))))))) (fun x=>(x.1,x.2.1,x.2.2.1,x.2.2.2.1,(⟨(d4 x).1,(d4 x).2.1,(d4 x).2.2.1,(d4 x).2.2.2.1,(d8 x).1,(d8 x).2.1,(d8 x).2.2.1,(d16 x),(d8 x).2.2.2.1,(d12 x).1,(d12 x).2.1⟩:zb),(d12 x).2.2.1,(d12 x).2.2.2.1)) (fun y=>(y.1,y.2.1,y.2.2.1,y.2.2.2.1,(d4 y).1.On,(d4 y).1.Gone,(d4 y).1.Height,(d4 y).1.Time,(d4 y).1.Id,(d4 y).1.Set,(d4 y).1.Pending,(d4 y).1.Flags,(d4 y).1.Out,(d4 y).1.Seen,(d4 y).2.1,(d4 y).2.2,(d4 y).1.Ripes)) (fun _=>rfl)) ⟨[1,2,4,7,41,42,43],[.nilcell 2 7 93 (.ripes []),.pub 41,.nilsl 41 (.packets [])]⟩ [.cells 64 22,.cells 64 22,.cells 73 6,.rows 93]
def zat1:St→Option LR:=L1 106 8 0 za1f (.exit 3) zaqe (u10 ze3)
def zs97a:=sub (fb Tryz.f49) [0,1,0,1,1,1,0,0,1,1,0,0,1,0,1,1,1,1]
theorem za1g:zl (zy97).env 0 zs97a zat1 :=
 zd1 (A:=za1e) zh97 fM trivial (k:=za5 zs97a) (by kernel_rfl) rfl (by rintro ⟨x0,x1,x2,x3,x4,x5,x6,x7,x8,x9⟩;kernel_rfl)
def ze4 (x0:Int) (x1:(List Packet)) (x2 x3:Int) (x4 x5:zb): Tr ((Int×(List Packet)×Int×Int×zb×zb)⊕(Int×zb×zb)) :=
 (.ite (decide (x3 < x2))
  (.guard ((0:Int)≤x3∧x3 < ((Sl.len (.packets x1):Nat):Int))
  (.bind (zqp x4.Set ((x1.getD x3.toNat default).Set)) fun v3 =>
  (.bind (zke x0 x1 x2 x3 ((x1.getD x3.toNat default).Done) ((((x1.getD x3.toNat default).Done).length:Nat):Int) 0 ({ x4 with Id:=(x1.getD x3.toNat default).Id,Set:=v3 }) x5 (x1.getD x3.toNat default)) fun v4 =>
  (.guard ((Sl.len (.ripes v4.2.2.2.2.1.Ripes)+Sl.len (.ripes [(⟨v4.2.2.2.2.2.2.Id,i64.wrap (v4.1+15)⟩:Ripe)]))*16≤140737488355328)
  (.leaf (.inl (v4.1,v4.2.1,v4.2.2.1,i64.wrap (v4.2.2.2.1+1),{ v4.2.2.2.2.1 with Ripes:=v4.2.2.2.2.1.Ripes++[(⟨v4.2.2.2.2.2.2.Id,i64.wrap (v4.1+15)⟩:Ripe)] },v4.2.2.2.2.2.1)))))))
  (.leaf (.inr (x0,x4,x5))))
def zkf (x0:Int) (x1:(List Packet)) (x2 x3:Int) (x4 x5:zb):=zcv (fun s:Int×(List Packet)×Int×Int×zb×zb=>(ze4 s.1 s.2.1 s.2.2.1 s.2.2.2.1 s.2.2.2.2.1 s.2.2.2.2.2).run) (x0,x1,x2,x3,x4,x5)
def za1h:Ann:=⟨[([0,1,0,1,1,1,0,0,1,1,0,0,1,0,1,1,1,1],zat1)],[],[],zv97,[(23,[800002])]⟩
def za1i:=EndD.mk (LQ.map (LQ.v intP (LQ.kp 0 0 (LQ.kp 1 0 (LQ.v zal (LQ.v intP (LQ.v intP (LQ.v boolP (LQ.v boolP (LQ.v intP (LQ.v intP (LQ.v intP (LQ.v zd (LQ.v zal (LQ.k (LQ.c (.own 2)) (LQ.seq (LP.q (a6L (LP.one boolP))) (LQ.seq (LP.q lineL) (LQ.seq (LP.q zp6) (LQ.seq (LP.q z5) (Par.q zhw))))))))))))))))))) (fun x=>(x.1,x.2.1,x.2.2.1,x.2.2.2.1,(⟨(d4 x).1,(d4 x).2.1,(d4 x).2.2.1,(d4 x).2.2.2.1,(d8 x).1,(d8 x).2.1,(d8 x).2.2.1,(d12 x).2.2.2,(d8 x).2.2.2.1,(d12 x).1,(d12 x).2.1⟩:zb),(d12 x).2.2.1)) (fun y=>(y.1,y.2.1,y.2.2.1,y.2.2.2.1,(d4 y).1.On,(d4 y).1.Gone,(d4 y).1.Height,(d4 y).1.Time,(d4 y).1.Id,(d4 y).1.Set,(d4 y).1.Pending,(d4 y).1.Flags,(d4 y).1.Out,(d4 y).1.Seen,(d4 y).2,(d4 y).1.Ripes)) (fun _=>rfl)) ⟨[1,2,4,41,42,43],[.nilcell 2 7 93 (.ripes []),.pub 41,.nilsl 41 (.packets [])]⟩ [.cells 64 22,.cells 64 22,.rows 93]
def zaqf:=EndD.mk (LQ.map (LQ.v intP (LQ.kp 0 0 (LQ.kp 1 0 (LQ.v boolP (LQ.v boolP (LQ.v intP (LQ.v intP (LQ.v intP (LQ.v zd (LQ.v zal (LQ.k (LQ.c (.own 2)) (LQ.seq (LP.q (a6L (LP.one boolP))) (LQ.seq (LP.q lineL) (LQ.seq (LP.q zp6) (LQ.seq (LP.q z5) (Par.q zhw)))))))))))))))) (fun x=>(x.1,(⟨x.2.1,x.2.2.1,x.2.2.2.1,(d4 x).1,(d4 x).2.1,(d4 x).2.2.1,(d4 x).2.2.2.1,(d12 x),(d8 x).1,(d8 x).2.1,(d8 x).2.2.1⟩:zb),(d8 x).2.2.2.1)) (fun y=>(y.1,y.2.1.On,y.2.1.Gone,y.2.1.Height,y.2.1.Time,y.2.1.Id,y.2.1.Set,y.2.1.Pending,y.2.1.Flags,y.2.1.Out,y.2.1.Seen,y.2.2,y.2.1.Ripes)) (fun _=>rfl)) ⟨[1,2,4],[.nilcell 2 7 93 (.ripes [])]⟩ [.cells 64 22,.cells 64 22,.rows 93]
def zat2:St→Option LR:=L1 106 8 0 za1i (.exit 1) zaqf (u6 ze4)
def zs97b:=sub (fb Tryz.f49) [0,1,0,1,1,1,1]
theorem za1j:zl (zy97).env 0 zs97b zat2 :=
 zd1 (A:=za1h) zh97 fM ⟨za1g,trivial⟩ (k:=za5 zs97b) (by kernel_rfl) rfl (by rintro ⟨x0,x1,x2,x3,x4,x5⟩;kernel_rfl)
def zdo (x0:Int) (x1 x2:zb): Tr ((Int×zb×zb)⊕(zb×zb)) :=
 (.guard (((decide (((x1.Ripes.length:Nat):Int) > 0))=true→((0:Int)≤0∧0 < ((Sl.len (.ripes x1.Ripes):Nat):Int))∧True))
 (.ite ((decide (((x1.Ripes.length:Nat):Int) > 0))&&(decide (((x1.Ripes.getD 0 default).Due)≤x0)))
  (.guard ((0:Int)≤0∧0 < ((Sl.len (.ripes x1.Ripes):Nat):Int))
  (.bind (zbh (⟨2,(x1.Ripes.getD 0 default).Id,0,0,[],[]⟩:Packet) x0 x1) fun v6 =>
  (.ite (v6.1 != 0)
   (.leaf (.inr (v6.2,x2)))
   (.guard ((0:Int)≤1∧1≤(((Sl.len (.ripes v6.2.Ripes):Nat):Int):Int)∧((Sl.len (.ripes v6.2.Ripes):Nat):Int)≤((Sl.len (.ripes v6.2.Ripes):Nat):Int))
   (.leaf (.inl (x0,{ v6.2 with Ripes:=((v6.2.Ripes.drop 1).take ((((Sl.len (.ripes v6.2.Ripes):Nat):Int)).toNat - 1)) },x2)))))))
  (.leaf (.inr (x1,x2)))))
def zbv (x0:Int) (x1 x2:zb):=zcv (fun s:Int×zb×zb=>(zdo s.1 s.2.1 s.2.2).run) (x0,x1,x2)
def za1k:Ann:=⟨[],[],[],zv97,[(23,[800002])]⟩
def za1l:=EndD.mk (LQ.v intP (LQ.kp 0 0 (LQ.kp 1 0 (LQ.seq (LP.q z5) (LP.q z5))))) ⟨[1,2,4],[.pubC 2 6,.pubC 2 7]⟩ [.cells 64 22,.cells 64 22]
def zaqg:=EndD.mk (LQ.kp 0 0 (LQ.kp 1 0 (LQ.seq (LP.q z5) (LP.q z5)))) ⟨[2,4],[.pubC 2 6,.pubC 2 7]⟩ [.cells 64 22,.cells 64 22]
def zat3:St→Option LR:=L1 106 8 0 za1l (.exit 5) zaqg (u3 zdo)
def zs97c:=sub (fb Tryz.f49) [0,0,1,1,1,1,1,1]
theorem za1m:zl (zy97).env 0 zs97c zat3 :=
 zd1 (A:=za1k) zh97 fM trivial (k:=za5 zs97c) (by kernel_rfl) rfl (by rintro ⟨x0,x1,x2⟩;kernel_rfl)
def zqr (a0:zb) (a1:Int): Tr (zb×Int) :=
 (.bind (zd9 a0) fun v1 =>
 (.ite (!v1)
  (.leaf (a0,2))
  (.ite (!a0.On)
   (.leaf (a0,4))
   (.ite ((decide (a1 < a0.Time))||(decide (a1 > 1099511627776)))
    (.leaf (a0,2))
    (.bind (zew a0.Ripes) fun v2 =>
    (.bind (zkf a1 a0.Pending ((a0.Pending.length:Nat):Int) 0 ({ a0 with Height:=i64.wrap (a0.Height+1),Time:=a1,Ripes:=v2 }) (default:zb)) fun v5 =>
    (.bind (zbv v5.1 ({ v5.2.1 with Pending:=[] }) v5.2.2) fun v7 =>
    (.leaf (v7.1,0)))))))))
def zz (a0:zb) (a1:Int):=(zqr a0 a1).run
def zvy:SpecT:=zu 0 (LQ.v (Par.ofLP z5) (Par.q intP)) 2 [] (u2 zqr) default (LQ.v (Par.ofLP z5) (Par.q intP)) 2 []
theorem z2o:zg Tryz.prog 49 (zvy).spec :=
 sK (A:=⟨[([0,1,0,1,1,1,1],zat2),([0,0,1,1,1,1,1,1],zat3)],[],[],zv97,[(23,[800002])]⟩) zh97 fM Tryz.func49 (c:=(fb Tryz.f49)) (by kernel_rfl) (Lc:=0) ⟨za1j,za1m,trivial⟩ _ _ 8 _ _ _ _ _ _ [.pubB 4] (by rintro ⟨a0,a1⟩;kernel_rfl)
noncomputable def zy98:EnvT:=⟨Tryz.prog,zad [(74,zg4),(85,zmz),(77,zl3)],false⟩
theorem zh98:(zy98).Ok:=zf ⟨ziy,zrj,zos,trivial⟩
def zot (a0:zb) (a1 a2:Int): Tr (zb×Int) :=
 (.bind (zd9 a0) fun v1 =>
 (.ite (((!v1)||(decide (a2 < 0)))||(decide (a2 > 1099511627776)))
  (.leaf (a0,2))
  (.guard (((((!a0.On)||(decide (a1 < 0)))||(decide (a1≥6)))=false→((zaf a0.Set a1).isSome=true)∧True))
  (.ite ((((!a0.On)||(decide (a1 < 0)))||(decide (a1≥6)))||(((zaf a0.Set a1).getD default)==0))
   (.leaf (a0,4))
   (.guard ((0:Int)≤a1∧(a1:Int) < 6)
   (.ite (a0.Flags.get a1)
    (.leaf (a0,5))
    (.guard ((zaf a0.Set a1).isSome=true)
    (.guard ((zbh (⟨3,a0.Id,a1,((zaf a0.Set a1).getD default),[],[]⟩:Packet) a2 a0).isSome=true)
    (.ite ((((zbh (⟨3,a0.Id,a1,((zaf a0.Set a1).getD default),[],[]⟩:Packet) a2 a0).getD default).1) != 0)
     (.leaf ((((zbh (⟨3,a0.Id,a1,((zaf a0.Set a1).getD default),[],[]⟩:Packet) a2 a0).getD default).2),((zbh (⟨3,a0.Id,a1,((zaf a0.Set a1).getD default),[],[]⟩:Packet) a2 a0).getD default).1))
     (.guard ((0:Int)≤a1∧(a1:Int) < 6)
     (.leaf ({ ((((zbh (⟨3,a0.Id,a1,((zaf a0.Set a1).getD default),[],[]⟩:Packet) a2 a0).getD default).2):zb) with Flags:=(((((zbh (⟨3,a0.Id,a1,((zaf a0.Set a1).getD default),[],[]⟩:Packet) a2 a0).getD default).2).Flags).set a1 true) },0))))))))))))
def zea (a0:zb) (a1 a2:Int):=(zot a0 a1 a2).run
def zua:SpecT:=zu 0 (LQ.v (Par.ofLP z5) (LQ.v intP (Par.q intP))) 3 [] (u3 zot) default (LQ.v (Par.ofLP z5) (Par.q intP)) 2 []
theorem z0x:zg Tryz.prog 52 (zua).spec :=
 sK (A:=⟨[],[],[],[[1,2,3,6],[1,2,3,6,9],[6,7],[1,2,3,6,22],[6,7],[1,2,3,6,42],[6,7],[1,3,6,8],[1,3,6,8,59],[6,7],[3,6],[6,7]],[]⟩) zh98 fM Tryz.func52 (c:=(fb Tryz.f52)) (by kernel_rfl) (Lc:=0) trivial _ _ 4 _ _ _ _ _ _ [.pubB 6] (by rintro ⟨a0,a1,a2⟩;kernel_rfl)
noncomputable def zy99:EnvT:=⟨Tryz.prog,zad [(74,zg4),(85,zmz),(77,zl3)],false⟩
theorem zh99:(zy99).Ok:=zf ⟨ziy,zrj,zos,trivial⟩
def zlc (a0:zb) (a1 a2 a3:Int): Tr (zb×Int) :=
 (.bind (zd9 a0) fun v1 =>
 (.ite (((!v1)||(decide (a3 < 0)))||(decide (a3 > 1099511627776)))
  (.leaf (a0,2))
  (.ite (((!a0.On)||(decide (a1 < 0)))||(decide (a1≥6)))
   (.leaf (a0,4))
   (.ite ((decide (a2 < 1))||(decide (a2 > a0.Id)))
    (.leaf (a0,2))
    (.bind (zaf a0.Set a1) fun v2 =>
    (.bind (zbh (⟨4,a2,a1,if v2 > 1 then v2 else 1,[],[]⟩:Packet) a3 a0) fun v3 =>
    (.ite (v3.1 != 0)
     (.leaf (v3.2,v3.1))
     (.leaf (v3.2,0)))))))))
def zcy (a0:zb) (a1 a2 a3:Int):=(zlc a0 a1 a2 a3).run
def zrk:SpecT:=zu 0 (LQ.v (Par.ofLP z5) (LQ.v intP (LQ.v intP (Par.q intP)))) 4 [] (u4 zlc) default (LQ.v (Par.ofLP z5) (Par.q intP)) 2 []
theorem zyo:zg Tryz.prog 53 (zrk).spec :=
 sK (A:=⟨[],[],[],[[1,2,3,4,8],[1,2,3,4,8,11],[8,9],[1,2,3,4,8,24],[8,9],[1,2,3,4,8,37],[8,9],[4,8,10],[4,8,10,58],[8,9],[8,9]],[]⟩) zh99 fM Tryz.func53 (c:=(fb Tryz.f53)) (by kernel_rfl) (Lc:=0) trivial _ _ 4 _ _ _ _ _ _ [.pubB 8] (by rintro ⟨a0,a1,a2,a3⟩;kernel_rfl)
def zld (a0:zb): Tr (zb) :=
 (.ite (!a0.On)
  (.leaf a0)
  (.leaf ({ a0 with On:=false,Gone:=true,Out:={ a0.Out with Closed:=true } })))
def zgs (a0:zb):=(zld a0).run
def zrl:SpecT:=zu 0 (Par.q (Par.ofLP z5)) 1 [] zld default (Par.q (Par.ofLP z5)) 1 []
theorem zyp:zg Tryz.prog 84 (zrl).spec :=
 sK (A:=⟨[],[],[],[[1,2],[1,2,5],[2],[1,2],[2]],[]⟩) zhN fM Tryz.func84 (c:=(fb Tryz.f84)) (by kernel_rfl) (Lc:=0) trivial _ _ 4 _ _ _ _ _ _ [.pubB 2] (by rintro a0;kernel_rfl)
end
