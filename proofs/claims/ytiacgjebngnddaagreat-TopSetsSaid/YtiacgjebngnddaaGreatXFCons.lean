/-
  The functions, each by its tree.
-/
import Derived.Test.YtiacgjebngnddaaGreatXAbC
import Derived.Test.YtiacgjebngnddaaGreatXFCodec
import Derived.Test.YtiacgjebngnddaaGreatXFLine
import Derived.Test.YtiacgjebngnddaaGreatXFRatio
import Derived.Test.YtiacgjebngnddaaGreatXFStakeB
import Derived.Test.YtiacgjebngnddaaGreatXFacts
namespace Go.Proofs.YtiacgjebngnddaaGreat.Ab
open Go Go.RowKit
open Go.IntKind (i64 u64)
set_option maxRecDepth 100000
set_option linter.unusedVariables false
set_option linter.unusedSimpArgs false
noncomputable section
noncomputable def zy89:EnvT:=⟨Tryz.prog,zac [(29,zkn)]⟩
theorem zh89:(zy89).Ok:=zf ⟨zl2,trivial⟩
def zjr (a0:Packet): Tr (Bool) :=
 (.bind (ze2 a0) fun v1 =>
 (.leaf ((v1 != 0)||(a0.Kind != 1))))
def zn0 (a0:Packet):=(zjr a0).run
def zpk:SpecT:=zr 0 (Par.q (Par.ofLP zje)) 1 [] zjr default (Par.q boolP) 1 []
theorem zwk:zg Tryz.prog 116 (zpk).spec :=
 sK (A:=⟨[],[],[],[[1],[2]],[]⟩) zh89 fM Tryz.func116 (c:=(fb Tryz.f116)) (by kernel_rfl) (Lc:=0) trivial _ _ 3 _ _ _ _ _ _ [] (by rintro a0;kernel_rfl)
def zv90:List (List Nat):=[[0,1],[0,1,7,8],[0,1,7,8,9],[0,1,5,7,8],[0,1,5,7,8,16],[4],[0,1,7,8],[4]]
noncomputable def zy90:EnvT:=⟨Tryz.prog,zac [(116,zpk)]⟩
theorem zh90:(zy90).Ok:=zf ⟨zwk,trivial⟩
def zae (x0:(List Packet)) (x1 x2:Int): Tr (((List Packet)×Int×Int)⊕((Int)⊕(Unit))) :=
 (.ite (decide (x2 < x1))
  (.guard ((0:Int)≤x2∧x2 < ((Sl.len (.packets x0):Nat):Int))
  (.bind (zn0 (x0.getD x2.toNat default)) fun v1 =>
  (.ite (v1)
   (.leaf (.inr (.inl x2)))
   (.leaf (.inl (x0,x1,i64.wrap (x2+1)))))))
  (.leaf (.inr (.inr ()))))
def zdq (x0:(List Packet)) (x1 x2:Int):=zd3 (fun s:(List Packet)×Int×Int=>(zae s.1 s.2.1 s.2.2).run) (x0,x1,x2)
def zavm:Ann:=⟨[],[],[],zv90,[]⟩
def zavn:=EndD.mk (LQ.v zc7 (LQ.k (LQ.c (.fn 116 [])) (LQ.v intP (Par.q intP)))) ⟨[0,1,7,8],[.pub 0,.nilsl 0 (.packets [])]⟩ []
def zamn:=EndD.mk (Par.q intP) ⟨[4],[]⟩ []
def zamo:EndD (Unit):=⟨LQ.nil,⟨[],[]⟩,[]⟩
def zaqb:St→Option LR:=L2 19 2 0 zavn .ret zamn (.exit 0) zamo (u3 zae)
def zs90a:=sub (fb Tryz.f138) [0,1,0,1]
theorem zavo:zt (zy90).env 0 zs90a zaqb :=
 zoc (A:=zavm) zh90 fM trivial (k:=zch zs90a) (by kernel_rfl) rfl rfl (by rintro ⟨x0,x1,x2⟩;kernel_rfl)
def zbb (a0:(List Packet)): Tr (Int) :=
 (.two (zdq a0 ((a0.length:Nat):Int) 0) (fun v2 =>
  (.leaf v2)) (fun v3 =>
  (.leaf (-1))))
def zca (a0:(List Packet)):=(zbb a0).run
def zfb:SpecT:=zr 0 (LQ.skipR (Par.q zc7) (LQ.c (.fn 116 []))) 2 [] zbb default (Par.q intP) 1 []
theorem zkp:zg Tryz.prog 138 (zfb).spec :=
 sK (A:=⟨[([0,1,0,1],zaqb)],[],[],zv90,[]⟩) zh90 fM Tryz.func138 (c:=(fb Tryz.f138)) (by kernel_rfl) (Lc:=0) ⟨zavo,trivial⟩ _ _ 2 _ _ _ _ _ _ [] (by rintro a0;kernel_rfl)
noncomputable def zy91:EnvT:=⟨Tryz.prog,zac [(138,zfb)]⟩
theorem zh91:(zy91).Ok:=zf ⟨zkp,trivial⟩
def zbx (a0:(List Packet)): Tr (Bool) :=
 (.bind (zca a0) fun v1 =>
 (.leaf (decide (v1≥0))))
def zbk (a0:(List Packet)):=(zbx a0).run
def zd4:SpecT:=zr 0 (LQ.skipR (Par.q zc7) (LQ.c (.fn 116 []))) 2 [] zbx default (Par.q boolP) 1 []
theorem zix:zg Tryz.prog 115 (zd4).spec :=
 sK (A:=⟨[],[],[],[[0,1],[4]],[]⟩) zh91 fM Tryz.func115 (c:=(fb Tryz.f115)) (by kernel_rfl) (Lc:=0) trivial _ _ 2 _ _ _ _ _ _ [] (by rintro a0;kernel_rfl)
def zv92:List (List Nat):=[[1],[1,48],[2],[1,50,51,52],[1,50,51,52,53],[1,3,4,50,51,52],[1,50,51,52,90],[2],[1,50,51,52],[1,93,94,95],[1,93,94,95,96],[1,6,93,94,95],[1,93,94,95,111],[2],[1,93,94,95],[2]]
noncomputable def zy92:EnvT:=⟨Tryz.prog,zac [(58,zjm),(115,zd4)]⟩
theorem zh92:(zy92).Ok:=zf ⟨zkm,zix,trivial⟩
def zfq (x0:(List Power)) (x1 x2:Int) (x3:zc): Tr (((List Power)×Int×Int×zc)⊕((Bool)⊕(zc))) :=
 (.ite (decide (x2 < x1))
  (.guard ((0:Int)≤x2∧x2 < ((Sl.len (.powers x0):Nat):Int))
  (.guard (((decide (x2 > 0))=true→(((decide (((x0.getD x2.toNat default).V) < 0))||(decide (((x0.getD x2.toNat default).V)≥6)))=false→((0:Int)≤(i64.wrap (x2 - 1))∧(i64.wrap (x2 - 1)) < ((Sl.len (.powers x3.Set):Nat):Int))∧True)))
  (.ite (((((decide (((x0.getD x2.toNat default).V) < 0))||(decide (((x0.getD x2.toNat default).V)≥6)))||((decide (x2 > 0))&&(decide (((x3.Set.getD ((i64.wrap (x2 - 1)).toNat) default).V)≥((x0.getD x2.toNat default).V)))))||(decide (((x0.getD x2.toNat default).N) < 1)))||(decide (((x0.getD x2.toNat default).N) > 1125899906842624)))
   (.leaf (.inr (.inl false)))
   (.leaf (.inl (x0,x1,i64.wrap (x2+1),x3))))))
  (.leaf (.inr (.inr x3))))
def zmt (x0:(List Power)) (x1 x2:Int) (x3:zc):=zd3 (fun s:(List Power)×Int×Int×zc=>(zfq s.1 s.2.1 s.2.2.1 s.2.2.2).run) (x0,x1,x2,x3)
def zavs:Ann:=⟨[],[],[],zv92,[]⟩
def zavt:=EndD.mk (LQ.kp 0 0 (LQ.v zn (LQ.v intP (LQ.v intP (LP.q z6))))) ⟨[1,50,51,52],[.pub 50,.nilsl 50 (.powers [])]⟩ [.cells 64 22]
def zamp:=EndD.mk (Par.q boolP) ⟨[2],[]⟩ []
def zamq:=EndD.mk (LQ.kp 0 0 (LP.q z6)) ⟨[1],[]⟩ [.cells 64 22]
def zaqc:St→Option LR:=L2 117 4 0 zavt .ret zamp (.exit 0) zamq (u4 zfq)
def zs92a:=sub (fb Tryz.f74) [0,1,0,1,1]
theorem zavu:zt (zy92).env 0 zs92a zaqc :=
 zoc (A:=zavs) zh92 fM trivial (k:=zch zs92a) (by kernel_rfl) rfl rfl (by rintro ⟨x0,x1,x2,x3⟩;kernel_rfl)
def zcj (x0:(List Ripe)) (x1 x2:Int) (x3:zc): Tr (((List Ripe)×Int×Int×zc)⊕((Bool)⊕(zc))) :=
 (.ite (decide (x2 < x1))
  (.guard ((0:Int)≤x2∧x2 < ((Sl.len (.ripes x0):Nat):Int))
  (.ite (((decide (((x0.getD x2.toNat default).Id) < 1))||(decide (((x0.getD x2.toNat default).Id) > 1099511627776)))||(decide (((x0.getD x2.toNat default).Due) < 0)))
   (.leaf (.inr (.inl false)))
   (.leaf (.inl (x0,x1,i64.wrap (x2+1),x3)))))
  (.leaf (.inr (.inr x3))))
def zhr (x0:(List Ripe)) (x1 x2:Int) (x3:zc):=zd3 (fun s:(List Ripe)×Int×Int×zc=>(zcj s.1 s.2.1 s.2.2.1 s.2.2.2).run) (x0,x1,x2,x3)
def zavv:Ann:=⟨[],[],[],zv92,[]⟩
def zavw:=EndD.mk (LQ.kp 0 0 (LQ.v ztt (LQ.v intP (LQ.v intP (LP.q z6))))) ⟨[1,93,94,95],[.pub 93,.nilsl 93 (.ripes [])]⟩ [.cells 64 22]
def zamr:=EndD.mk (Par.q boolP) ⟨[2],[]⟩ []
def zams:=EndD.mk (LQ.kp 0 0 (LP.q z6)) ⟨[1],[]⟩ [.cells 64 22]
def zaqd:St→Option LR:=L2 117 4 0 zavw .ret zamr (.exit 2) zams (u4 zcj)
def zs92b:=sub (fb Tryz.f74) [0,1,0,1,1,1]
theorem zavx:zt (zy92).env 0 zs92b zaqd :=
 zoc (A:=zavv) zh92 fM trivial (k:=zch zs92b) (by kernel_rfl) rfl rfl (by rintro ⟨x0,x1,x2,x3⟩;kernel_rfl)
def zmu (a0:zc): Tr (Bool) :=
 (.guard (((((((((a0.On&&a0.Gone)||(decide (a0.Height < 0)))||(decide (a0.Height≥1099511627776)))||(decide (a0.Time < 0)))||(decide (a0.Time > 1099511627776)))||(decide (a0.Id < 0)))||(decide (a0.Id > 1099511627776)))=false→((zdn a0.Out).isSome=true)∧True))
 (.ite ((((((((a0.On&&a0.Gone)||(decide (a0.Height < 0)))||(decide (a0.Height≥1099511627776)))||(decide (a0.Time < 0)))||(decide (a0.Time > 1099511627776)))||(decide (a0.Id < 0)))||(decide (a0.Id > 1099511627776)))||(!((zdn a0.Out).getD default)))
  (.leaf false)
  (.two (zmt a0.Set ((a0.Set.length:Nat):Int) 0 a0) (fun v1 =>
   (.leaf v1)) (fun v2 =>
   (.two (zhr v2.Ripes ((v2.Ripes.length:Nat):Int) 0 v2) (fun v3 =>
    (.leaf v3)) (fun v4 =>
    (.bind (zbk v4.Pending) fun v5 =>
    (.leaf (!v5)))))))))
def zdk (a0:zc):=(zmu a0).run
def zf2:SpecT:=zr 0 (Par.q (Par.ofLP z6)) 1 [] zmu default (Par.q boolP) 1 []
theorem zhi:zg Tryz.prog 74 (zf2).spec :=
 sK (A:=⟨[([0,1,0,1,1],zaqc),([0,1,0,1,1,1],zaqd)],[],[],zv92,[]⟩) zh92 fM Tryz.func74 (c:=(fb Tryz.f74)) (by kernel_rfl) (Lc:=0) ⟨zavu,zavx,trivial⟩ _ _ 4 _ _ _ _ _ _ [] (by rintro a0;kernel_rfl)
noncomputable def zy93:EnvT:=⟨Tryz.prog,zac [(73,zib)]⟩
theorem zh93:(zy93).Ok:=zf ⟨zom,trivial⟩
def zk7 (a0:(List Power)) (a1 a2:Int): Tr (zc) :=
 (.bind (zdw a0) fun v1 =>
 (.leaf (⟨true,false,0,a2,a1,v1,[],[],(⟨false,false,false,false,false,false⟩:(A6 Bool)),(⟨[],[],0,false⟩:zid),(⟨0,0,0,0⟩:z98)⟩:zc)))
def zgh (a0:(List Power)) (a1 a2:Int):=(zk7 a0 a1 a2).run
def zra:SpecT:=zr 0 (LQ.v zn (LQ.v intP (Par.q intP))) 3 [] (u3 zk7) default (Par.q (Par.ofLP z6)) 1 []
theorem zxg:zg Tryz.prog 48 (zra).spec :=
 sK (A:=⟨[],[],[],[[0,1,2,6],[6]],[]⟩) zh93 fM Tryz.func48 (c:=(fb Tryz.f48)) (by kernel_rfl) (Lc:=0) trivial _ _ 4 _ _ _ _ _ _ [.pubB 6] (by rintro ⟨a0,a1,a2⟩;kernel_rfl)
noncomputable def zy94:EnvT:=⟨Tryz.prog,zac [(14,zor),(74,zf2),(119,zg4)]⟩
theorem zh94:(zy94).Ok:=zf ⟨zr3,zhi,znj,trivial⟩
def zmv (a0:zc) (a1:ByteArray): Tr (zc×Int) :=
 (.bind (zef a1) fun v1 =>
 (.bind (zdk a0) fun v2 =>
 (.ite (!v2)
  (.leaf (a0,2))
  (.ite (!a0.On)
   (.leaf (a0,4))
   (.ite (v1.2 != 0)
    (.leaf (a0,v1.2))
    (.ite (v1.1.Kind != 1)
     (.leaf (a0,3))
     (.guard ((za1 a0.Pending).isSome=true)
     (.guard ((Sl.len (.packets ((za1 a0.Pending).getD default))+Sl.len (.packets [v1.1]))*80≤140737488355328)
     (.leaf ({ a0 with Pending:=((za1 a0.Pending).getD default)++[v1.1] },0))))))))))
def zhj (a0:zc) (a1:ByteArray):=(zmv a0 a1).run
def zsd:SpecT:=zr 0 (LQ.v (Par.ofLP z6) (Par.q strP)) 2 [] (u2 zmv) default (LQ.v (Par.ofLP z6) (Par.q intP)) 2 []
theorem zyk:zg Tryz.prog 81 (zsd).spec :=
 sK (A:=⟨[],[],[],[[1,2,4],[2,4,6,7],[2,4,6,7,13],[4,5],[2,4,6,7,18],[4,5],[2,4,6,7,23],[4,5],[2,4,6,28],[4,5],[2,4],[4,5]],[]⟩) zh94 fM Tryz.func81 (c:=(fb Tryz.f81)) (by kernel_rfl) (Lc:=0) trivial _ _ 8 _ _ _ _ _ _ [.pubB 4] (by rintro ⟨a0,a1⟩;kernel_rfl)
noncomputable def zy95:EnvT:=⟨Tryz.prog,zac [(113,zj9),(114,zxe)]⟩
theorem zh95:(zy95).Ok:=zf ⟨zmm,zz8,trivial⟩
def zou (a0:Packet) (a1:Int) (a2:zc): Tr (Int×zc) :=
 (.bind (za7 a0) fun v1 =>
 (.ite (v1.2 != 0)
  (.leaf (v1.2,a2))
  (.bind (zql a2.Out v1.1 (i64.wrap (a1+40))) fun v2 =>
  (.ite (v2.2 != 0)
   (.leaf (v2.2,a2))
   (.leaf (0,{ a2 with Out:=v2.1 }))))))
def za8 (a0:Packet) (a1:Int) (a2:zc):=(zou a0 a1 a2).run
def zka:SpecT:=zr 1 (LQ.kp 0 0 (LQ.v (Par.ofLP zje) (LQ.v intP (LP.q z6)))) 3 [.cells 64 22] (u3 zou) default (LQ.v intP (LP.q z6)) 1 [.cells 64 22]
theorem zmw:zg Tryz.prog 77 (zka).spec :=
 sK (A:=⟨[],[],[],[[0,2,4],[0,2,7,8],[0,2,7,8,16],[6],[0,8,9],[0,8,9,30],[6],[],[6]],[]⟩) zh95 fM Tryz.func77 (c:=(fb Tryz.f77)) (by kernel_rfl) (Lc:=1) trivial _ _ 5 _ _ _ _ _ _ [.pubN 0] (by rintro ⟨a0,a1,a2⟩;kernel_rfl)
def zv96:List (List Nat):=[[0,1],[1,7,8,9],[1,7,8,9,10],[1,6,7,8,9],[1,6,7,8,9,16],[4],[1,7,8,9],[4]]
def zc1 (x0:Int) (x1:(List Power)) (x2 x3:Int): Tr ((Int×(List Power)×Int×Int)⊕((Int)⊕(Unit))) :=
 (.ite (decide (x3 < x2))
  (.guard ((0:Int)≤x3∧x3 < ((Sl.len (.powers x1):Nat):Int))
  (.ite (((x1.getD x3.toNat default).V)==x0)
   (.leaf (.inr (.inl ((x1.getD x3.toNat default).N))))
   (.leaf (.inl (x0,x1,x2,i64.wrap (x3+1))))))
  (.leaf (.inr (.inr ()))))
def zlj (x0:Int) (x1:(List Power)) (x2 x3:Int):=zd3 (fun s:Int×(List Power)×Int×Int=>(zc1 s.1 s.2.1 s.2.2.1 s.2.2.2).run) (x0,x1,x2,x3)
def zavy:Ann:=⟨[],[],[],zv96,[]⟩
def zavz:=EndD.mk (LQ.v intP (LQ.v zn (LQ.v intP (Par.q intP)))) ⟨[1,7,8,9],[.pub 7,.nilsl 7 (.powers [])]⟩ []
def zamt:=EndD.mk (Par.q intP) ⟨[4],[]⟩ []
def zamu:EndD (Unit):=⟨LQ.nil,⟨[],[]⟩,[]⟩
def zaqe:St→Option LR:=L2 20 3 0 zavz .ret zamt (.exit 0) zamu (u4 zc1)
def zs96a:=sub (fb Tryz.f85) [0,1,0,1]
theorem zav0:zt (zyN).env 0 zs96a zaqe :=
 zoc (A:=zavy) zhN fM trivial (k:=zch zs96a) (by kernel_rfl) rfl rfl (by rintro ⟨x0,x1,x2,x3⟩;kernel_rfl)
def zk8 (a0:(List Power)) (a1:Int): Tr (Int) :=
 (.two (zlj a1 a0 ((a0.length:Nat):Int) 0) (fun v1 =>
  (.leaf v1)) (fun v2 =>
  (.leaf 0)))
def z8 (a0:(List Power)) (a1:Int):=(zk8 a0 a1).run
def zk9:SpecT:=zr 0 (LQ.v zn (Par.q intP)) 2 [] (u2 zk8) default (Par.q intP) 1 []
theorem zpl:zg Tryz.prog 85 (zk9).spec :=
 sK (A:=⟨[([0,1,0,1],zaqe)],[],[],zv96,[]⟩) zhN fM Tryz.func85 (c:=(fb Tryz.f85)) (by kernel_rfl) (Lc:=0) ⟨zav0,trivial⟩ _ _ 3 _ _ _ _ _ _ [] (by rintro ⟨a0,a1⟩;kernel_rfl)
def zv97:List (List Nat):=[[1,2,4],[1,2,4,10],[4,5],[1,2,4,15],[4,5],[1,2,4,20],[4,5],[1,2,4],[1,2,4],[1,2,4,41,42,43],[1,2,4,41,42,43,44],[1,2,4,7,41,42,43],[1,2,4,7,41,42,43],[1,2,4,7,41,42,43],[1,2,4,7,41,42,43,57,58,59],[1,2,4,7,41,42,43,57,58,59,60],[1,2,4,7,9,41,42,43,57,58,59],[1,2,4,7,41,42,43,57,58,59],[1,2,4,7,41,42,43,57,58,59],[1,2,4,41,42,43],[1,2,4,41,42,43],[1,2,4],[1,2,4,91],[1,2,4,100],[1,2,4],[4,5]]
noncomputable def zy97:EnvT:=⟨Tryz.prog,zac [(74,zf2),(75,zin),(76,zwj),(77,zka)]⟩
theorem zh97:(zy97).Ok:=zf ⟨zhi,zpj,z2a,zmw,trivial⟩
def zei (x0:Int) (x1:(List Packet)) (x2 x3:Int) (x4:(List Int)) (x5 x6:Int) (x7 x8:zc) (x9:Packet): Tr ((Int×(List Packet)×Int×Int×(List Int)×Int×Int×zc×zc×Packet)⊕(Int×(List Packet)×Int×Int×zc×zc×Packet)) :=
 (.ite (decide (x6 < x5))
  (.guard ((0:Int)≤x6∧x6 < ((Sl.len (.ints x4):Nat):Int))
  (.guard ((0:Int)≤(x4.getD x6.toNat 0)∧((x4.getD x6.toNat 0):Int) < 6)
  (.leaf (.inl (x0,x1,x2,x3,x4,x5,i64.wrap (x6+1),{ x7 with Flags:=(x7.Flags.set (x4.getD x6.toNat 0) false) },x8,x9)))))
  (.leaf (.inr (x0,x1,x2,x3,x7,x8,x9))))
def ziy (x0:Int) (x1:(List Packet)) (x2 x3:Int) (x4:(List Int)) (x5 x6:Int) (x7 x8:zc) (x9:Packet):=zd3 (fun s:Int×(List Packet)×Int×Int×(List Int)×Int×Int×zc×zc×Packet=>(zei s.1 s.2.1 s.2.2.1 s.2.2.2.1 s.2.2.2.2.1 s.2.2.2.2.2.1 s.2.2.2.2.2.2.1 s.2.2.2.2.2.2.2.1 s.2.2.2.2.2.2.2.2.1 s.2.2.2.2.2.2.2.2.2).run) (x0,x1,x2,x3,x4,x5,x6,x7,x8,x9)
def zav1:Ann:=⟨[],[],[],zv97,[(23,[800002])]⟩
def zav2:=EndD.mk (LQ.map (LQ.v intP (LQ.kp 0 0 (LQ.kp 1 0 (LQ.kp 2 0 (LQ.v zc7 (LQ.v intP (LQ.v intP (LQ.v zfw (LQ.v intP (LQ.v intP (LQ.v boolP (LQ.v boolP (LQ.v intP (LQ.v intP (LQ.v intP (LQ.v zn (LQ.v zc7 (LQ.k (LQ.c (.own 3)) (LQ.seq (LP.q (a6L (LP.one boolP))) (LQ.seq (LP.q lineL) (LQ.seq (LP.q z3l) (LQ.seq (LP.q z6) (LQ.seq (LP.q zje) (Par.q ztt)))))))))))))))))))))))) (fun x=>(x.1,x.2.1,x.2.2.1,x.2.2.2.1,(d4 x).1,(d4 x).2.1,(d4 x).2.2.1,(⟨(d4 x).2.2.2.1,(d8 x).1,(d8 x).2.1,(d8 x).2.2.1,(d8 x).2.2.2.1,(d12 x).1,(d12 x).2.1,(d16 x).2.2.2,(d12 x).2.2.1,(d12 x).2.2.2.1,(d16 x).1⟩:zc),(d16 x).2.1,(d16 x).2.2.1)) (fun y=>(y.1,y.2.1,y.2.2.1,y.2.2.2.1,(d4 y).1,(d4 y).2.1,(d4 y).2.2.1,(d4 y).2.2.2.1.On,(d4 y).2.2.2.1.Gone,(d4 y).2.2.2.1.Height,(d4 y).2.2.2.1.Time,(d4 y).2.2.2.1.Id,(d4 y).2.2.2.1.Set,(d4 y).2.2.2.1.Pending,(d4 y).2.2.2.1.Flags,(d4 y).2.2.2.1.Out,(d4 y).2.2.2.1.Seen,(d8 y).1,(d8 y).2,(d4 y).2.2.2.1.Ripes)) (fun _=>rfl)) ⟨[1,2,4,7,41,42,43,57,58,59],[.nilcell 2 7 93 (.ripes []),.pub 41,.nilsl 41 (.packets []),.pub 57,.nilsl 57 (.ints [])]⟩ [.cells 64 22,.cells 64 22,.cells 73 6,.rows 93]
def zamv:=EndD.mk (LQ.map (LQ.v intP (LQ.kp 0 0 (LQ.kp 1 0 (LQ.kp 2 0 (LQ.v zc7 (LQ.v intP (LQ.v intP (LQ.v boolP (LQ.v boolP (LQ.v intP (LQ.v intP (LQ.v intP (LQ.v zn (LQ.v zc7 (LQ.k (LQ.c (.own 3)) (LQ.seq (LP.q (a6L (LP.one boolP))) (LQ.seq (LP.q lineL) (LQ.seq (LP.q z3l) (LQ.seq (LP.q z6) (LQ.seq (LP.q zje) (Par.q ztt))))))))))))))))))))) (fun x=>(x.1,x.2.1,x.2.2.1,x.2.2.2.1,(⟨(d4 x).1,(d4 x).2.1,(d4 x).2.2.1,(d4 x).2.2.2.1,(d8 x).1,(d8 x).2.1,(d8 x).2.2.1,(d16 x),(d8 x).2.2.2.1,(d12 x).1,(d12 x).2.1⟩:zc),(d12 x).2.2.1,(d12 x).2.2.2.1)) (fun y=>(y.1,y.2.1,y.2.2.1,y.2.2.2.1,(d4 y).1.On,(d4 y).1.Gone,(d4 y).1.Height,(d4 y).1.Time,(d4 y).1.Id,(d4 y).1.Set,(d4 y).1.Pending,(d4 y).1.Flags,(d4 y).1.Out,(d4 y).1.Seen,(d4 y).2.1,(d4 y).2.2,(d4 y).1.Ripes)) (fun _=>rfl)) ⟨[1,2,4,7,41,42,43],[.nilcell 2 7 93 (.ripes []),.pub 41,.nilsl 41 (.packets [])]⟩ [.cells 64 22,.cells 64 22,.cells 73 6,.rows 93]
def zaqf:St→Option LR:=L1 106 8 0 zav2 (.exit 3) zamv (u10 zei)
def zs97a:=sub (fb Tryz.f49) [0,1,0,1,1,1,0,0,1,1,0,0,1,0,1,1,1,1]
theorem zav3:zt (zy97).env 0 zs97a zaqf :=
 zhm (A:=zav1) zh97 fM trivial (k:=zch zs97a) (by kernel_rfl) rfl (by rintro ⟨x0,x1,x2,x3,x4,x5,x6,x7,x8,x9⟩;kernel_rfl)
def zej (x0:Int) (x1:(List Packet)) (x2 x3:Int) (x4 x5:zc): Tr ((Int×(List Packet)×Int×Int×zc×zc)⊕(Int×zc×zc)) :=
 (.ite (decide (x3 < x2))
  (.guard ((0:Int)≤x3∧x3 < ((Sl.len (.packets x1):Nat):Int))
  (.bind (zot x4.Set ((x1.getD x3.toNat default).Set)) fun v3 =>
  (.bind (ziy x0 x1 x2 x3 ((x1.getD x3.toNat default).Done) ((((x1.getD x3.toNat default).Done).length:Nat):Int) 0 ({ x4 with Id:=(x1.getD x3.toNat default).Id,Set:=v3 }) x5 (x1.getD x3.toNat default)) fun v4 =>
  (.guard ((Sl.len (.ripes v4.2.2.2.2.1.Ripes)+Sl.len (.ripes [(⟨v4.2.2.2.2.2.2.Id,i64.wrap (v4.1+15)⟩:Ripe)]))*16≤140737488355328)
  (.leaf (.inl (v4.1,v4.2.1,v4.2.2.1,i64.wrap (v4.2.2.2.1+1),{ v4.2.2.2.2.1 with Ripes:=v4.2.2.2.2.1.Ripes++[(⟨v4.2.2.2.2.2.2.Id,i64.wrap (v4.1+15)⟩:Ripe)] },v4.2.2.2.2.2.1)))))))
  (.leaf (.inr (x0,x4,x5))))
def ziz (x0:Int) (x1:(List Packet)) (x2 x3:Int) (x4 x5:zc):=zd3 (fun s:Int×(List Packet)×Int×Int×zc×zc=>(zej s.1 s.2.1 s.2.2.1 s.2.2.2.1 s.2.2.2.2.1 s.2.2.2.2.2).run) (x0,x1,x2,x3,x4,x5)
def zav4:Ann:=⟨[([0,1,0,1,1,1,0,0,1,1,0,0,1,0,1,1,1,1],zaqf)],[],[],zv97,[(23,[800002])]⟩
def zav5:=EndD.mk (LQ.map (LQ.v intP (LQ.kp 0 0 (LQ.kp 1 0 (LQ.v zc7 (LQ.v intP (LQ.v intP (LQ.v boolP (LQ.v boolP (LQ.v intP (LQ.v intP (LQ.v intP (LQ.v zn (LQ.v zc7 (LQ.k (LQ.c (.own 2)) (LQ.seq (LP.q (a6L (LP.one boolP))) (LQ.seq (LP.q lineL) (LQ.seq (LP.q z3l) (LQ.seq (LP.q z6) (Par.q ztt))))))))))))))))))) (fun x=>(x.1,x.2.1,x.2.2.1,x.2.2.2.1,(⟨(d4 x).1,(d4 x).2.1,(d4 x).2.2.1,(d4 x).2.2.2.1,(d8 x).1,(d8 x).2.1,(d8 x).2.2.1,(d12 x).2.2.2,(d8 x).2.2.2.1,(d12 x).1,(d12 x).2.1⟩:zc),(d12 x).2.2.1)) (fun y=>(y.1,y.2.1,y.2.2.1,y.2.2.2.1,(d4 y).1.On,(d4 y).1.Gone,(d4 y).1.Height,(d4 y).1.Time,(d4 y).1.Id,(d4 y).1.Set,(d4 y).1.Pending,(d4 y).1.Flags,(d4 y).1.Out,(d4 y).1.Seen,(d4 y).2,(d4 y).1.Ripes)) (fun _=>rfl)) ⟨[1,2,4,41,42,43],[.nilcell 2 7 93 (.ripes []),.pub 41,.nilsl 41 (.packets [])]⟩ [.cells 64 22,.cells 64 22,.rows 93]
def zamw:=EndD.mk (LQ.map (LQ.v intP (LQ.kp 0 0 (LQ.kp 1 0 (LQ.v boolP (LQ.v boolP (LQ.v intP (LQ.v intP (LQ.v intP (LQ.v zn (LQ.v zc7 (LQ.k (LQ.c (.own 2)) (LQ.seq (LP.q (a6L (LP.one boolP))) (LQ.seq (LP.q lineL) (LQ.seq (LP.q z3l) (LQ.seq (LP.q z6) (Par.q ztt)))))))))))))))) (fun x=>(x.1,(⟨x.2.1,x.2.2.1,x.2.2.2.1,(d4 x).1,(d4 x).2.1,(d4 x).2.2.1,(d4 x).2.2.2.1,(d12 x),(d8 x).1,(d8 x).2.1,(d8 x).2.2.1⟩:zc),(d8 x).2.2.2.1)) (fun y=>(y.1,y.2.1.On,y.2.1.Gone,y.2.1.Height,y.2.1.Time,y.2.1.Id,y.2.1.Set,y.2.1.Pending,y.2.1.Flags,y.2.1.Out,y.2.1.Seen,y.2.2,y.2.1.Ripes)) (fun _=>rfl)) ⟨[1,2,4],[.nilcell 2 7 93 (.ripes [])]⟩ [.cells 64 22,.cells 64 22,.rows 93]
def zaqg:St→Option LR:=L1 106 8 0 zav5 (.exit 1) zamw (u6 zej)
def zs97b:=sub (fb Tryz.f49) [0,1,0,1,1,1,1]
theorem zav6:zt (zy97).env 0 zs97b zaqg :=
 zhm (A:=zav4) zh97 fM ⟨zav3,trivial⟩ (k:=zch zs97b) (by kernel_rfl) rfl (by rintro ⟨x0,x1,x2,x3,x4,x5⟩;kernel_rfl)
def zcy (x0:Int) (x1 x2:zc): Tr ((Int×zc×zc)⊕(zc×zc)) :=
 (.guard (((decide (((x1.Ripes.length:Nat):Int) > 0))=true→((0:Int)≤0∧0 < ((Sl.len (.ripes x1.Ripes):Nat):Int))∧True))
 (.ite ((decide (((x1.Ripes.length:Nat):Int) > 0))&&(decide (((x1.Ripes.getD 0 default).Due)≤x0)))
  (.guard ((0:Int)≤0∧0 < ((Sl.len (.ripes x1.Ripes):Nat):Int))
  (.bind (za8 (⟨2,(x1.Ripes.getD 0 default).Id,0,0,[],[]⟩:Packet) x0 x1) fun v6 =>
  (.ite (v6.1 != 0)
   (.leaf (.inr (v6.2,x2)))
   (.guard ((0:Int)≤1∧1≤(((Sl.len (.ripes v6.2.Ripes):Nat):Int):Int)∧((Sl.len (.ripes v6.2.Ripes):Nat):Int)≤((Sl.len (.ripes v6.2.Ripes):Nat):Int))
   (.leaf (.inl (x0,{ v6.2 with Ripes:=((v6.2.Ripes.drop 1).take ((((Sl.len (.ripes v6.2.Ripes):Nat):Int)).toNat - 1)) },x2)))))))
  (.leaf (.inr (x1,x2)))))
def zbl (x0:Int) (x1 x2:zc):=zd3 (fun s:Int×zc×zc=>(zcy s.1 s.2.1 s.2.2).run) (x0,x1,x2)
def zav7:Ann:=⟨[],[],[],zv97,[(23,[800002])]⟩
def zav8:=EndD.mk (LQ.v intP (LQ.kp 0 0 (LQ.kp 1 0 (LQ.seq (LP.q z6) (LP.q z6))))) ⟨[1,2,4],[.pubC 2 6,.pubC 2 7]⟩ [.cells 64 22,.cells 64 22]
def zamx:=EndD.mk (LQ.kp 0 0 (LQ.kp 1 0 (LQ.seq (LP.q z6) (LP.q z6)))) ⟨[2,4],[.pubC 2 6,.pubC 2 7]⟩ [.cells 64 22,.cells 64 22]
def zaqh:St→Option LR:=L1 106 8 0 zav8 (.exit 5) zamx (u3 zcy)
def zs97c:=sub (fb Tryz.f49) [0,0,1,1,1,1,1,1]
theorem zav9:zt (zy97).env 0 zs97c zaqh :=
 zhm (A:=zav7) zh97 fM trivial (k:=zch zs97c) (by kernel_rfl) rfl (by rintro ⟨x0,x1,x2⟩;kernel_rfl)
def zov (a0:zc) (a1:Int): Tr (zc×Int) :=
 (.bind (zdk a0) fun v1 =>
 (.ite (!v1)
  (.leaf (a0,2))
  (.ite (!a0.On)
   (.leaf (a0,4))
   (.ite ((decide (a1 < a0.Time))||(decide (a1 > 1099511627776)))
    (.leaf (a0,2))
    (.bind (zeb a0.Ripes) fun v2 =>
    (.bind (ziz a1 a0.Pending ((a0.Pending.length:Nat):Int) 0 ({ a0 with Height:=i64.wrap (a0.Height+1),Time:=a1,Ripes:=v2 }) (default:zc)) fun v5 =>
    (.bind (zbl v5.1 ({ v5.2.1 with Pending:=[] }) v5.2.2) fun v7 =>
    (.leaf (v7.1,0)))))))))
def zv (a0:zc) (a1:Int):=(zov a0 a1).run
def zt3:SpecT:=zr 0 (LQ.v (Par.ofLP z6) (Par.q intP)) 2 [] (u2 zov) default (LQ.v (Par.ofLP z6) (Par.q intP)) 2 []
theorem z0h:zg Tryz.prog 49 (zt3).spec :=
 sK (A:=⟨[([0,1,0,1,1,1,1],zaqg),([0,0,1,1,1,1,1,1],zaqh)],[],[],zv97,[(23,[800002])]⟩) zh97 fM Tryz.func49 (c:=(fb Tryz.f49)) (by kernel_rfl) (Lc:=0) ⟨zav6,zav9,trivial⟩ _ _ 8 _ _ _ _ _ _ [.pubB 4] (by rintro ⟨a0,a1⟩;kernel_rfl)
noncomputable def zy98:EnvT:=⟨Tryz.prog,zac [(74,zf2),(85,zk9),(77,zka)]⟩
theorem zh98:(zy98).Ok:=zf ⟨zhi,zpl,zmw,trivial⟩
def zmx (a0:zc) (a1 a2:Int): Tr (zc×Int) :=
 (.bind (zdk a0) fun v1 =>
 (.ite (((!v1)||(decide (a2 < 0)))||(decide (a2 > 1099511627776)))
  (.leaf (a0,2))
  (.guard (((((!a0.On)||(decide (a1 < 0)))||(decide (a1≥6)))=false→((z8 a0.Set a1).isSome=true)∧True))
  (.ite ((((!a0.On)||(decide (a1 < 0)))||(decide (a1≥6)))||(((z8 a0.Set a1).getD default)==0))
   (.leaf (a0,4))
   (.guard ((0:Int)≤a1∧(a1:Int) < 6)
   (.ite (a0.Flags.get a1)
    (.leaf (a0,5))
    (.guard ((z8 a0.Set a1).isSome=true)
    (.guard ((za8 (⟨3,a0.Id,a1,((z8 a0.Set a1).getD default),[],[]⟩:Packet) a2 a0).isSome=true)
    (.ite ((((za8 (⟨3,a0.Id,a1,((z8 a0.Set a1).getD default),[],[]⟩:Packet) a2 a0).getD default).1) != 0)
     (.leaf ((((za8 (⟨3,a0.Id,a1,((z8 a0.Set a1).getD default),[],[]⟩:Packet) a2 a0).getD default).2),((za8 (⟨3,a0.Id,a1,((z8 a0.Set a1).getD default),[],[]⟩:Packet) a2 a0).getD default).1))
     (.guard ((0:Int)≤a1∧(a1:Int) < 6)
     (.leaf ({ ((((za8 (⟨3,a0.Id,a1,((z8 a0.Set a1).getD default),[],[]⟩:Packet) a2 a0).getD default).2):zc) with Flags:=(((((za8 (⟨3,a0.Id,a1,((z8 a0.Set a1).getD default),[],[]⟩:Packet) a2 a0).getD default).2).Flags).set a1 true) },0))))))))))))
def zdl (a0:zc) (a1 a2:Int):=(zmx a0 a1 a2).run
def zse:SpecT:=zr 0 (LQ.v (Par.ofLP z6) (LQ.v intP (Par.q intP))) 3 [] (u3 zmx) default (LQ.v (Par.ofLP z6) (Par.q intP)) 2 []
theorem zyl:zg Tryz.prog 52 (zse).spec :=
 sK (A:=⟨[],[],[],[[1,2,3,6],[1,2,3,6,9],[6,7],[1,2,3,6,22],[6,7],[1,2,3,6,42],[6,7],[1,3,6,8],[1,3,6,8,59],[6,7],[3,6],[6,7]],[]⟩) zh98 fM Tryz.func52 (c:=(fb Tryz.f52)) (by kernel_rfl) (Lc:=0) trivial _ _ 4 _ _ _ _ _ _ [.pubB 6] (by rintro ⟨a0,a1,a2⟩;kernel_rfl)
noncomputable def zy99:EnvT:=⟨Tryz.prog,zac [(74,zf2),(85,zk9),(77,zka)]⟩
theorem zh99:(zy99).Ok:=zf ⟨zhi,zpl,zmw,trivial⟩
def zjs (a0:zc) (a1 a2 a3:Int): Tr (zc×Int) :=
 (.bind (zdk a0) fun v1 =>
 (.ite (((!v1)||(decide (a3 < 0)))||(decide (a3 > 1099511627776)))
  (.leaf (a0,2))
  (.ite (((!a0.On)||(decide (a1 < 0)))||(decide (a1≥6)))
   (.leaf (a0,4))
   (.ite ((decide (a2 < 1))||(decide (a2 > a0.Id)))
    (.leaf (a0,2))
    (.bind (z8 a0.Set a1) fun v2 =>
    (.bind (za8 (⟨4,a2,a1,if v2 > 1 then v2 else 1,[],[]⟩:Packet) a3 a0) fun v3 =>
    (.ite (v3.1 != 0)
     (.leaf (v3.2,v3.1))
     (.leaf (v3.2,0)))))))))
def zck (a0:zc) (a1 a2 a3:Int):=(zjs a0 a1 a2 a3).run
def zpm:SpecT:=zr 0 (LQ.v (Par.ofLP z6) (LQ.v intP (LQ.v intP (Par.q intP)))) 4 [] (u4 zjs) default (LQ.v (Par.ofLP z6) (Par.q intP)) 2 []
theorem zwl:zg Tryz.prog 53 (zpm).spec :=
 sK (A:=⟨[],[],[],[[1,2,3,4,8],[1,2,3,4,8,11],[8,9],[1,2,3,4,8,24],[8,9],[1,2,3,4,8,37],[8,9],[4,8,10],[4,8,10,58],[8,9],[8,9]],[]⟩) zh99 fM Tryz.func53 (c:=(fb Tryz.f53)) (by kernel_rfl) (Lc:=0) trivial _ _ 4 _ _ _ _ _ _ [.pubB 8] (by rintro ⟨a0,a1,a2,a3⟩;kernel_rfl)
def zjt (a0:zc): Tr (zc) :=
 (.ite (!a0.On)
  (.leaf a0)
  (.leaf ({ a0 with On:=false,Gone:=true,Out:={ a0.Out with Closed:=true } })))
def zfr (a0:zc):=(zjt a0).run
def zpn:SpecT:=zr 0 (Par.q (Par.ofLP z6)) 1 [] zjt default (Par.q (Par.ofLP z6)) 1 []
theorem zwm:zg Tryz.prog 84 (zpn).spec :=
 sK (A:=⟨[],[],[],[[1,2],[1,2,5],[2],[1,2],[2]],[]⟩) zhN fM Tryz.func84 (c:=(fb Tryz.f84)) (by kernel_rfl) (Lc:=0) trivial _ _ 4 _ _ _ _ _ _ [.pubB 2] (by rintro a0;kernel_rfl)
end
