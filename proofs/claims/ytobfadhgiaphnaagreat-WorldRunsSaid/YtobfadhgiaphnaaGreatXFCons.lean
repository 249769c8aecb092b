/-
  The functions, each by its tree.
-/
import Derived.Test.YtobfadhgiaphnaaGreatXAbFun
import Derived.Test.YtobfadhgiaphnaaGreatXAbStructs
import Derived.Test.YtobfadhgiaphnaaGreatXFCodec
import Derived.Test.YtobfadhgiaphnaaGreatXFLine
import Derived.Test.YtobfadhgiaphnaaGreatXFRatio
import Derived.Test.YtobfadhgiaphnaaGreatXFStakeB
import Derived.Test.YtobfadhgiaphnaaGreatXFacts
namespace Go.Proofs.YtobfadhgiaphnaaGreat.Ab
open Go Go.RowKit
set_option maxRecDepth 100000
set_option linter.unusedVariables false
set_option linter.unusedSimpArgs false
noncomputable section
noncomputable def zy90:EnvT:=⟨Tryz.prog,zw [(114,zpo)]⟩
theorem zh90:(zy90).Ok:=zd ⟨zrt,trivial⟩
def zof (a0:Packet): Tr (Bool) :=
 (.bind (zg6 a0) fun v1 =>
 (.leaf ((v1 != 0)||(a0.Kind != 1))))
def zuh (a0:Packet):=(zof a0).run
def zwg:SpecT:=zm 0 (Par.q (Par.ofLP zes)) 1 [] zof default (Par.q boolP) 1 []
theorem z5u:ze Tryz.prog 176 (zwg).spec :=
 sK (A:=⟨[],[],[],[[1],[2]],[]⟩) zh90 fM Tryz.func176 (c:=(fb Tryz.f176)) (by kernel_rfl) (Lc:=0) trivial _ _ 3 _ _ _ _ _ _ [] (by rintro a0;kernel_rfl)
def zv91:List (List Nat):=[[0,1],[0,1,7,8],[0,1,7,8,9],[0,1,5,7,8],[0,1,5,7,8,16],[4],[0,1,7,8],[4]]
noncomputable def zy91:EnvT:=⟨Tryz.prog,zw [(176,zwg)]⟩
theorem zh91:(zy91).Ok:=zd ⟨z5u,trivial⟩
def zar (x0:(List Packet)) (x1 x2:Int): Tr (((List Packet)×Int×Int)⊕((Int)⊕(Unit))) :=
 (.ite (decide (x2 < x1))
  (.guard ((0:Int)≤x2∧x2 < ((Sl.len (.packets x0):Nat):Int))
  (.bind (zuh (x0.getD x2.toNat default)) fun v1 =>
  (.ite (v1)
   (.leaf (.inr (.inl x2)))
   (.leaf (.inl (x0,x1,IntKind.i64.wrap (x2+1)))))))
  (.leaf (.inr (.inr ()))))
def zfe (x0:(List Packet)) (x1 x2:Int):=zbp (fun s:(List Packet)×Int×Int=>(zar s.1 s.2.1 s.2.2).run) (x0,x1,x2)
def zbgy:Ann:=⟨[],[],[],zv91,[]⟩
def zbgz:=EndD.mk (LQ.v zaz (LQ.k (LQ.c (.fn 176 [])) (LQ.v intP (Par.q intP)))) ⟨[0,1,7,8],[.pub 0,.nilsl 0 (.packets [])]⟩ []
def za2f:=EndD.mk (Par.q intP) ⟨[4],[]⟩ []
def za2g:EndD (Unit):=⟨LQ.nil,⟨[],[]⟩,[]⟩
def za64:St→Option LR:=L2 19 2 0 zbgz .ret za2f (.exit 0) za2g (u3 zar)
def zs91a:=sub (fb Tryz.f200) [0,1,0,1]
theorem zbg0:zk (zy91).env 0 zs91a za64 :=
 zkf (A:=zbgy) zh91 fM trivial (k:=zab zs91a) (by kernel_rfl) rfl rfl (by rintro ⟨x0,x1,x2⟩;kernel_rfl)
def zb4 (a0:(List Packet)): Tr (Int) :=
 (.two (zfe a0 ((a0.length:Nat):Int) 0) (fun v2 =>
  (.leaf v2)) (fun v3 =>
  (.leaf (-1))))
def zdn (a0:(List Packet)):=(zb4 a0).run
def zht:SpecT:=zm 0 (LQ.skipR (Par.q zaz) (LQ.c (.fn 176 []))) 2 [] zb4 default (Par.q intP) 1 []
theorem zpq:ze Tryz.prog 200 (zht).spec :=
 sK (A:=⟨[([0,1,0,1],za64)],[],[],zv91,[]⟩) zh91 fM Tryz.func200 (c:=(fb Tryz.f200)) (by kernel_rfl) (Lc:=0) ⟨zbg0,trivial⟩ _ _ 2 _ _ _ _ _ _ [] (by rintro a0;kernel_rfl)
noncomputable def zy92:EnvT:=⟨Tryz.prog,zw [(200,zht)]⟩
theorem zh92:(zy92).Ok:=zd ⟨zpq,trivial⟩
def zc8 (a0:(List Packet)): Tr (Bool) :=
 (.bind (zdn a0) fun v1 =>
 (.leaf (decide (v1≥0))))
def zcq (a0:(List Packet)):=(zc8 a0).run
def zf0:SpecT:=zm 0 (LQ.skipR (Par.q zaz) (LQ.c (.fn 176 []))) 2 [] zc8 default (Par.q boolP) 1 []
theorem zm8:ze Tryz.prog 175 (zf0).spec :=
 sK (A:=⟨[],[],[],[[0,1],[4]],[]⟩) zh92 fM Tryz.func175 (c:=(fb Tryz.f175)) (by kernel_rfl) (Lc:=0) trivial _ _ 2 _ _ _ _ _ _ [] (by rintro a0;kernel_rfl)
def zv93:List (List Nat):=[[1],[1,48],[2],[1,50,51,52],[1,50,51,52,53],[1,3,4,50,51,52],[1,50,51,52,90],[2],[1,50,51,52],[1,93,94,95],[1,93,94,95,96],[1,6,93,94,95],[1,93,94,95,111],[2],[1,93,94,95],[2]]
noncomputable def zy93:EnvT:=⟨Tryz.prog,zw [(111,zoa),(175,zf0)]⟩
theorem zh93:(zy93).Ok:=zd ⟨zpn,zm8,trivial⟩
def zix (x0:(List Power)) (x1 x2:Int) (x3:zb): Tr (((List Power)×Int×Int×zb)⊕((Bool)⊕(zb))) :=
 (.ite (decide (x2 < x1))
  (.guard ((0:Int)≤x2∧x2 < ((Sl.len (.powers x0):Nat):Int))
  (.guard (((decide (x2 > 0))=true→(((decide (((x0.getD x2.toNat default).V) < 0))||(decide (((x0.getD x2.toNat default).V)≥6)))=false→((0:Int)≤(IntKind.i64.wrap (x2 - 1))∧(IntKind.i64.wrap (x2 - 1)) < ((Sl.len (.powers x3.Set):Nat):Int))∧True)))
  (.ite (((((decide (((x0.getD x2.toNat default).V) < 0))||(decide (((x0.getD x2.toNat default).V)≥6)))||((decide (x2 > 0))&&(decide (((x3.Set.getD ((IntKind.i64.wrap (x2 - 1)).toNat) default).V)≥((x0.getD x2.toNat default).V)))))||(decide (((x0.getD x2.toNat default).N) < 1)))||(decide (((x0.getD x2.toNat default).N) > 1125899906842624)))
   (.leaf (.inr (.inl false)))
   (.leaf (.inl (x0,x1,IntKind.i64.wrap (x2+1),x3))))))
  (.leaf (.inr (.inr x3))))
def zsu (x0:(List Power)) (x1 x2:Int) (x3:zb):=zbp (fun s:(List Power)×Int×Int×zb=>(zix s.1 s.2.1 s.2.2.1 s.2.2.2).run) (x0,x1,x2,x3)
def zbg4:Ann:=⟨[],[],[],zv93,[]⟩
def zbg5:=EndD.mk (LQ.kp 0 0 (LQ.v zg (LQ.v intP (LQ.v intP (LP.q zn))))) ⟨[1,50,51,52],[.pub 50,.nilsl 50 (.powers [])]⟩ [.cells 70 22]
def za2h:=EndD.mk (Par.q boolP) ⟨[2],[]⟩ []
def za2i:=EndD.mk (LQ.kp 0 0 (LP.q zn)) ⟨[1],[]⟩ [.cells 70 22]
def za65:St→Option LR:=L2 117 4 0 zbg5 .ret za2h (.exit 0) za2i (u4 zix)
def zs93a:=sub (fb Tryz.f128) [0,1,0,1,1]
theorem zbg6:zk (zy93).env 0 zs93a za65 :=
 zkf (A:=zbg4) zh93 fM trivial (k:=zab zs93a) (by kernel_rfl) rfl rfl (by rintro ⟨x0,x1,x2,x3⟩;kernel_rfl)
def zdx (x0:(List Ripe)) (x1 x2:Int) (x3:zb): Tr (((List Ripe)×Int×Int×zb)⊕((Bool)⊕(zb))) :=
 (.ite (decide (x2 < x1))
  (.guard ((0:Int)≤x2∧x2 < ((Sl.len (.ripes x0):Nat):Int))
  (.ite (((decide (((x0.getD x2.toNat default).Id) < 1))||(decide (((x0.getD x2.toNat default).Id) > 1099511627776)))||(decide (((x0.getD x2.toNat default).Due) < 0)))
   (.leaf (.inr (.inl false)))
   (.leaf (.inl (x0,x1,IntKind.i64.wrap (x2+1),x3)))))
  (.leaf (.inr (.inr x3))))
def zlu (x0:(List Ripe)) (x1 x2:Int) (x3:zb):=zbp (fun s:(List Ripe)×Int×Int×zb=>(zdx s.1 s.2.1 s.2.2.1 s.2.2.2).run) (x0,x1,x2,x3)
def zbg7:Ann:=⟨[],[],[],zv93,[]⟩
def zbg8:=EndD.mk (LQ.kp 0 0 (LQ.v znw (LQ.v intP (LQ.v intP (LP.q zn))))) ⟨[1,93,94,95],[.pub 93,.nilsl 93 (.ripes [])]⟩ [.cells 70 22]
def za2j:=EndD.mk (Par.q boolP) ⟨[2],[]⟩ []
def za2k:=EndD.mk (LQ.kp 0 0 (LP.q zn)) ⟨[1],[]⟩ [.cells 70 22]
def za66:St→Option LR:=L2 117 4 0 zbg8 .ret za2j (.exit 2) za2k (u4 zdx)
def zs93b:=sub (fb Tryz.f128) [0,1,0,1,1,1]
theorem zbg9:zk (zy93).env 0 zs93b za66 :=
 zkf (A:=zbg7) zh93 fM trivial (k:=zab zs93b) (by kernel_rfl) rfl rfl (by rintro ⟨x0,x1,x2,x3⟩;kernel_rfl)
def zsv (a0:zb): Tr (Bool) :=
 (.guard (((((((((a0.On&&a0.Gone)||(decide (a0.Height < 0)))||(decide (a0.Height≥1099511627776)))||(decide (a0.Time < 0)))||(decide (a0.Time > 1099511627776)))||(decide (a0.Id < 0)))||(decide (a0.Id > 1099511627776)))=false→((zfb a0.Out).isSome=true)∧True))
 (.ite ((((((((a0.On&&a0.Gone)||(decide (a0.Height < 0)))||(decide (a0.Height≥1099511627776)))||(decide (a0.Time < 0)))||(decide (a0.Time > 1099511627776)))||(decide (a0.Id < 0)))||(decide (a0.Id > 1099511627776)))||(!((zfb a0.Out).getD default)))
  (.leaf false)
  (.two (zsu a0.Set ((a0.Set.length:Nat):Int) 0 a0) (fun v1 =>
   (.leaf v1)) (fun v2 =>
   (.two (zlu v2.Ripes ((v2.Ripes.length:Nat):Int) 0 v2) (fun v3 =>
    (.leaf v3)) (fun v4 =>
    (.bind (zcq v4.Pending) fun v5 =>
    (.leaf (!v5)))))))))
def ze7 (a0:zb):=(zsv a0).run
def zjc:SpecT:=zm 0 (Par.q (Par.ofLP zn)) 1 [] zsv default (Par.q boolP) 1 []
theorem zlg:ze Tryz.prog 128 (zjc).spec :=
 sK (A:=⟨[([0,1,0,1,1],za65),([0,1,0,1,1,1],za66)],[],[],zv93,[]⟩) zh93 fM Tryz.func128 (c:=(fb Tryz.f128)) (by kernel_rfl) (Lc:=0) ⟨zbg6,zbg9,trivial⟩ _ _ 4 _ _ _ _ _ _ [] (by rintro a0;kernel_rfl)
noncomputable def zy94:EnvT:=⟨Tryz.prog,zw [(127,zmb)]⟩
theorem zh94:(zy94).Ok:=zd ⟨zu6,trivial⟩
def zqo (a0:(List Power)) (a1 a2:Int): Tr (zb) :=
 (.bind (zfs a0) fun v1 =>
 (.leaf (⟨true,false,0,a2,a1,v1,[],[],(⟨false,false,false,false,false,false⟩:(A6 Bool)),(⟨[],[],0,false⟩:zcl),(⟨0,0,0,0⟩:Head)⟩:zb)))
def zj6 (a0:(List Power)) (a1 a2:Int):=(zqo a0 a1 a2).run
def zyt:SpecT:=zm 0 (LQ.v zg (LQ.v intP (Par.q intP))) 3 [] (u3 zqo) default (Par.q (Par.ofLP zn)) 1 []
theorem z7b:ze Tryz.prog 86 (zyt).spec :=
 sK (A:=⟨[],[],[],[[0,1,2,6],[6]],[]⟩) zh94 fM Tryz.func86 (c:=(fb Tryz.f86)) (by kernel_rfl) (Lc:=0) trivial _ _ 4 _ _ _ _ _ _ [.pubB 6] (by rintro ⟨a0,a1,a2⟩;kernel_rfl)
noncomputable def zy95:EnvT:=⟨Tryz.prog,zw [(178,zvd),(128,zjc),(180,zky)]⟩
theorem zh95:(zy95).Ok:=zd ⟨zz7,zlg,ztv,trivial⟩
def zsw (a0:zb) (a1:ByteArray): Tr (zb×Int) :=
 (.bind (zgd a1) fun v1 =>
 (.bind (ze7 a0) fun v2 =>
 (.ite (!v2)
  (.leaf (a0,2))
  (.ite (!a0.On)
   (.leaf (a0,4))
   (.ite (v1.2 != 0)
    (.leaf (a0,v1.2))
    (.ite (v1.1.Kind != 1)
     (.leaf (a0,3))
     (.guard ((zbn a0.Pending).isSome=true)
     (.guard ((Sl.len (.packets ((zbn a0.Pending).getD default))+Sl.len (.packets [v1.1]))*80≤140737488355328)
     (.leaf ({ a0 with Pending:=((zbn a0.Pending).getD default)++[v1.1] },0))))))))))
def zlh (a0:zb) (a1:ByteArray):=(zsw a0 a1).run
def z0h:SpecT:=zm 0 (LQ.v (Par.ofLP zn) (Par.q z43)) 2 [] (u2 zsw) default (LQ.v (Par.ofLP zn) (Par.q intP)) 2 []
theorem z8v:ze Tryz.prog 135 (z0h).spec :=
 sK (A:=⟨[],[],[],[[1,2,4],[2,4,6,7],[2,4,6,7,13],[4,5],[2,4,6,7,18],[4,5],[2,4,6,7,23],[4,5],[2,4,6,28],[4,5],[2,4],[4,5]],[]⟩) zh95 fM Tryz.func135 (c:=(fb Tryz.f135)) (by kernel_rfl) (Lc:=0) trivial _ _ 8 _ _ _ _ _ _ [.pubB 4] (by rintro ⟨a0,a1⟩;kernel_rfl)
noncomputable def zy96:EnvT:=⟨Tryz.prog,zw [(173,zpd),(174,z69)]⟩
theorem zh96:(zy96).Ok:=zd ⟨zsm,zaar,trivial⟩
def zvh (a0:Packet) (a1:Int) (a2:zb): Tr (Int×zb) :=
 (.bind (zbz a0) fun v1 =>
 (.ite (v1.2 != 0)
  (.leaf (v1.2,a2))
  (.bind (zxr a2.Out v1.1 (IntKind.i64.wrap (a1+40))) fun v2 =>
  (.ite (v2.2 != 0)
   (.leaf (v2.2,a2))
   (.leaf (0,{ a2 with Out:=v2.1 }))))))
def zb0 (a0:Packet) (a1:Int) (a2:zb):=(zvh a0 a1 a2).run
def zpe:SpecT:=zm 1 (LQ.kp 0 0 (LQ.v (Par.ofLP zes) (LQ.v intP (LP.q zn)))) 3 [.cells 70 22] (u3 zvh) default (LQ.v intP (LP.q zn)) 1 [.cells 70 22]
theorem zsx:ze Tryz.prog 131 (zpe).spec :=
 sK (A:=⟨[],[],[],[[0,2,4],[0,2,7,8],[0,2,7,8,16],[6],[0,8,9],[0,8,9,30],[6],[],[6]],[]⟩) zh96 fM Tryz.func131 (c:=(fb Tryz.f131)) (by kernel_rfl) (Lc:=1) trivial _ _ 5 _ _ _ _ _ _ [.pubN 0] (by rintro ⟨a0,a1,a2⟩;kernel_rfl)
def zv97:List (List Nat):=[[0,1],[1,7,8,9],[1,7,8,9,10],[1,6,7,8,9],[1,6,7,8,9,16],[4],[1,7,8,9],[4]]
def zev (x0:Int) (x1:(List Power)) (x2 x3:Int): Tr ((Int×(List Power)×Int×Int)⊕((Int)⊕(Unit))) :=
 (.ite (decide (x3 < x2))
  (.guard ((0:Int)≤x3∧x3 < ((Sl.len (.powers x1):Nat):Int))
  (.ite (((x1.getD x3.toNat default).V)==x0)
   (.leaf (.inr (.inl ((x1.getD x3.toNat default).N))))
   (.leaf (.inl (x0,x1,x2,IntKind.i64.wrap (x3+1))))))
  (.leaf (.inr (.inr ()))))
def zq7 (x0:Int) (x1:(List Power)) (x2 x3:Int):=zbp (fun s:Int×(List Power)×Int×Int=>(zev s.1 s.2.1 s.2.2.1 s.2.2.2).run) (x0,x1,x2,x3)
def zbha:Ann:=⟨[],[],[],zv97,[]⟩
def zbhb:=EndD.mk (LQ.v intP (LQ.v zg (LQ.v intP (Par.q intP)))) ⟨[1,7,8,9],[.pub 7,.nilsl 7 (.powers [])]⟩ []
def za2l:=EndD.mk (Par.q intP) ⟨[4],[]⟩ []
def za2m:EndD (Unit):=⟨LQ.nil,⟨[],[]⟩,[]⟩
def za67:St→Option LR:=L2 20 3 0 zbhb .ret za2l (.exit 0) za2m (u4 zev)
def zs97a:=sub (fb Tryz.f139) [0,1,0,1]
theorem zbhc:zk (zyN).env 0 zs97a za67 :=
 zkf (A:=zbha) zhN fM trivial (k:=zab zs97a) (by kernel_rfl) rfl rfl (by rintro ⟨x0,x1,x2,x3⟩;kernel_rfl)
def zqp (a0:(List Power)) (a1:Int): Tr (Int) :=
 (.two (zq7 a1 a0 ((a0.length:Nat):Int) 0) (fun v1 =>
  (.leaf v1)) (fun v2 =>
  (.leaf 0)))
def zak (a0:(List Power)) (a1:Int):=(zqp a0 a1).run
def zqq:SpecT:=zm 0 (LQ.v zg (Par.q intP)) 2 [] (u2 zqp) default (Par.q intP) 1 []
theorem zwh:ze Tryz.prog 139 (zqq).spec :=
 sK (A:=⟨[([0,1,0,1],za67)],[],[],zv97,[]⟩) zhN fM Tryz.func139 (c:=(fb Tryz.f139)) (by kernel_rfl) (Lc:=0) ⟨zbhc,trivial⟩ _ _ 3 _ _ _ _ _ _ [] (by rintro ⟨a0,a1⟩;kernel_rfl)
def zv98:List (List Nat):=[[1,2,4],[1,2,4,10],[4,5],[1,2,4,15],[4,5],[1,2,4,20],[4,5],[1,2,4],[1,2,4],[1,2,4,41,42,43],[1,2,4,41,42,43,44],[1,2,4,7,41,42,43],[1,2,4,7,41,42,43],[1,2,4,7,41,42,43],[1,2,4,7,41,42,43,57,58,59],[1,2,4,7,41,42,43,57,58,59,60],[1,2,4,7,9,41,42,43,57,58,59],[1,2,4,7,41,42,43,57,58,59],[1,2,4,7,41,42,43,57,58,59],[1,2,4,41,42,43],[1,2,4,41,42,43],[1,2,4],[1,2,4,91],[1,2,4,100],[1,2,4],[4,5]]
noncomputable def zy98:EnvT:=⟨Tryz.prog,zw [(128,zjc),(129,zmv),(130,z5t),(131,zpe)]⟩
theorem zh98:(zy98).Ok:=zd ⟨zlg,zwd,zadd,zsx,trivial⟩
def zgh (x0:Int) (x1:(List Packet)) (x2 x3:Int) (x4:(List Int)) (x5 x6:Int) (x7 x8:zb) (x9:Packet): Tr ((Int×(List Packet)×Int×Int×(List Int)×Int×Int×zb×zb×Packet)⊕(Int×(List Packet)×Int×Int×zb×zb×Packet)) :=
 (.ite (decide (x6 < x5))
  (.guard ((0:Int)≤x6∧x6 < ((Sl.len (.ints x4):Nat):Int))
  (.guard ((0:Int)≤(x4.getD x6.toNat 0)∧((x4.getD x6.toNat 0):Int) < 6)
  (.leaf (.inl (x0,x1,x2,x3,x4,x5,IntKind.i64.wrap (x6+1),{ x7 with Flags:=(x7.Flags.set (x4.getD x6.toNat 0) false) },x8,x9)))))
  (.leaf (.inr (x0,x1,x2,x3,x7,x8,x9))))
def zm9 (x0:Int) (x1:(List Packet)) (x2 x3:Int) (x4:(List Int)) (x5 x6:Int) (x7 x8:zb) (x9:Packet):=zbp (fun s:Int×(List Packet)×Int×Int×(List Int)×Int×Int×zb×zb×Packet=>(zgh s.1 s.2.1 s.2.2.1 s.2.2.2.1 s.2.2.2.2.1 s.2.2.2.2.2.1 s.2.2.2.2.2.2.1 s.2.2.2.2.2.2.2.1 s.2.2.2.2.2.2.2.2.1 s.2.2.2.2.2.2.2.2.2).run) (x0,x1,x2,x3,x4,x5,x6,x7,x8,x9)
def zbhd:Ann:=⟨[],[],[],zv98,[(23,[800002])]⟩
def zbhe:=EndD.mk (LQ.map (LQ.v intP (LQ.kp 0 0 (LQ.kp 1 0 (LQ.kp 2 0 (LQ.v zaz (LQ.v intP (LQ.v intP (LQ.v zbc (LQ.v intP (LQ.v intP (LQ.v boolP (LQ.v boolP (LQ.v intP (LQ.v intP (LQ.v intP (LQ.v zg (LQ.v zaz (LQ.k (LQ.c (.own 3)) (LQ.seq (LP.q (a6L (LP.one boolP))) (LQ.seq (LP.q lineL) (LQ.seq (LP.q zzm) (LQ.seq (LP.q zn) (LQ.seq (LP.q zes) (Par.q znw)))))))))))))))))))))))) (fun x=>(x.1,x.2.1,x.2.2.1,x.2.2.2.1,(d4 x).1,(d4 x).2.1,(d4 x).2.2.1,(⟨(d4 x).2.2.2.1,(d8 x).1,(d8 x).2.1,(d8 x).2.2.1,(d8 x).2.2.2.1,(d12 x).1,(d12 x).2.1,(d16 x).2.2.2,(d12 x).2.2.1,(d12 x).2.2.2.1,(d16 x).1⟩:zb),(d16 x).2.1,(d16 x).2.2.1)) (fun y=>(y.1,y.2.1,y.2.2.1,y.2.2.2.1,(d4 y).1,(d4 y).2.1,(d4 y).2.2.1,(d4 y).2.2.2.1.On,(d4 y).2.2.2.1.Gone,(d4 y).2.2.2.1.Height,(d4 y).2.2.2.1.Time,(d4 y).2.2.2.1.Id,(d4 y).2.2.2.1.Set,(d4 y).2.2.2.1.Pending,(d4 y).2.2.2.1.Flags,(d4 y).2.2.2.1.Out,(d4 y).2.2.2.1.Seen,(d8 y).1,(d8 y).2,(d4 y).2.2.2.1.Ripes)) (fun _=>rfl)) ⟨[1,2,4,7,41,42,43,57,58,59],[.nilcell 2 7 119 (.ripes []),.pub 41,.nilsl 41 (.packets []),.pub 57,.nilsl 57 (.ints [])]⟩ [.cells 70 22,.cells 70 22,.cells 110 6,.rows 119]
def za2n:=EndD.mk (LQ.map (LQ.v intP (LQ.kp 0 0 (LQ.kp 1 0 (LQ.kp 2 0 (LQ.v zaz (LQ.v intP (LQ.v intP (LQ.v boolP (LQ.v boolP (LQ.v intP (LQ.v intP (LQ.v intP (LQ.v zg (LQ.v zaz (LQ.k (LQ.c (.own 3)) (LQ.seq (LP.q (a6L (LP.one boolP))) (LQ.seq (LP.q lineL) (LQ.seq (LP.q zzm) (LQ.seq (LP.q zn) (LQ.seq (LP.q zes) (Par.q znw))))))))))))))))))))) (fun x=>(x.1,x.2.1,x.2.2.1,x.2.2.2.1,(⟨(d4 x).1,(d4 x).2.1,(d4 x).2.2.1,(d4 x).2.2.2.1,(d8 x).1,(d8 x).2.1,(d8 x).2.2.1,(d16 x),(d8 x).2.2.2.1,(d12 x).1,(d12 x).2.1⟩:zb),(d12 x).2.2.1,(d12 x).2.2.2.1)) (fun y=>(y.1,y.2.1,y.2.2.1,y.2.2.2.1,(d4 y).1.On,(d4 y).1.Gone,(d4 y).1.Height,(d4 y).1.Time,(d4 y).1.Id,(d4 y).1.Set,(d4 y).1.Pending,(d4 y).1.Flags,(d4 y).1.Out,(d4 y).1.Seen,(d4 y).2.1,(d4 y).2.2,(d4 y).1.Ripes)) (fun _=>rfl)) ⟨[1,2,4,7,41,42,43],[.nilcell 2 7 119 (.ripes []),.pub 41,.nilsl 41 (.packets [])]⟩ [.cells 70 22,.cells 70 22,.cells 110 6,.rows 119]
def za68:St→Option LR:=L1 106 8 0 zbhe (.exit 3) za2n (u10 zgh)
def zs98a:=sub (fb Tryz.f87) [0,1,0,1,1,1,0,0,1,1,0,0,1,0,1,1,1,1]
theorem zbhf:zk (zy98).env 0 zs98a za68 :=
 zb2 (A:=zbhd) zh98 fM trivial (k:=zab zs98a) (by kernel_rfl) rfl (by rintro ⟨x0,x1,x2,x3,x4,x5,x6,x7,x8,x9⟩;kernel_rfl)
def zgi (x0:Int) (x1:(List Packet)) (x2 x3:Int) (x4 x5:zb): Tr ((Int×(List Packet)×Int×Int×zb×zb)⊕(Int×zb×zb)) :=
 (.ite (decide (x3 < x2))
  (.guard ((0:Int)≤x3∧x3 < ((Sl.len (.packets x1):Nat):Int))
  (.bind (zvg x4.Set ((x1.getD x3.toNat default).Set)) fun v3 =>
  (.bind (zm9 x0 x1 x2 x3 ((x1.getD x3.toNat default).Done) ((((x1.getD x3.toNat default).Done).length:Nat):Int) 0 ({ x4 with Id:=(x1.getD x3.toNat default).Id,Set:=v3 }) x5 (x1.getD x3.toNat default)) fun v4 =>
  (.guard ((Sl.len (.ripes v4.2.2.2.2.1.Ripes)+Sl.len (.ripes [(⟨v4.2.2.2.2.2.2.Id,IntKind.i64.wrap (v4.1+15)⟩:Ripe)]))*16≤140737488355328)
  (.leaf (.inl (v4.1,v4.2.1,v4.2.2.1,IntKind.i64.wrap (v4.2.2.2.1+1),{ v4.2.2.2.2.1 with Ripes:=v4.2.2.2.2.1.Ripes++[(⟨v4.2.2.2.2.2.2.Id,IntKind.i64.wrap (v4.1+15)⟩:Ripe)] },v4.2.2.2.2.2.1)))))))
  (.leaf (.inr (x0,x4,x5))))
def zna (x0:Int) (x1:(List Packet)) (x2 x3:Int) (x4 x5:zb):=zbp (fun s:Int×(List Packet)×Int×Int×zb×zb=>(zgi s.1 s.2.1 s.2.2.1 s.2.2.2.1 s.2.2.2.2.1 s.2.2.2.2.2).run) (x0,x1,x2,x3,x4,x5)
def zbhg:Ann:=⟨[([0,1,0,1,1,1,0,0,1,1,0,0,1,0,1,1,1,1],za68)],[],[],zv98,[(23,[800002])]⟩
def zbhh:=EndD.mk (LQ.map (LQ.v intP (LQ.kp 0 0 (LQ.kp 1 0 (LQ.v zaz (LQ.v intP (LQ.v intP (LQ.v boolP (LQ.v boolP (LQ.v intP (LQ.v intP (LQ.v intP (LQ.v zg (LQ.v zaz (LQ.k (LQ.c (.own 2)) (LQ.seq (LP.q (a6L (LP.one boolP))) (LQ.seq (LP.q lineL) (LQ.seq (LP.q zzm) (LQ.seq (LP.q zn) (Par.q znw))))))))))))))))))) (fun x=>(x.1,x.2.1,x.2.2.1,x.2.2.2.1,(⟨(d4 x).1,(d4 x).2.1,(d4 x).2.2.1,(d4 x).2.2.2.1,(d8 x).1,(d8 x).2.1,(d8 x).2.2.1,(d12 x).2.2.2,(d8 x).2.2.2.1,(d12 x).1,(d12 x).2.1⟩:zb),(d12 x).2.2.1)) (fun y=>(y.1,y.2.1,y.2.2.1,y.2.2.2.1,(d4 y).1.On,(d4 y).1.Gone,(d4 y).1.Height,(d4 y).1.Time,(d4 y).1.Id,(d4 y).1.Set,(d4 y).1.Pending,(d4 y).1.Flags,(d4 y).1.Out,(d4 y).1.Seen,(d4 y).2,(d4 y).1.Ripes)) (fun _=>rfl)) ⟨[1,2,4,41,42,43],[.nilcell 2 7 119 (.ripes []),.pub 41,.nilsl 41 (.packets [])]⟩ [.cells 70 22,.cells 70 22,.rows 119]
def za2o:=EndD.mk (LQ.map (LQ.v intP (LQ.kp 0 0 (LQ.kp 1 0 (LQ.v boolP (LQ.v boolP (LQ.v intP (LQ.v intP (LQ.v intP (LQ.v zg (LQ.v zaz (LQ.k (LQ.c (.own 2)) (LQ.seq (LP.q (a6L (LP.one boolP))) (LQ.seq (LP.q lineL) (LQ.seq (LP.q zzm) (LQ.seq (LP.q zn) (Par.q znw)))))))))))))))) (fun x=>(x.1,(⟨x.2.1,x.2.2.1,x.2.2.2.1,(d4 x).1,(d4 x).2.1,(d4 x).2.2.1,(d4 x).2.2.2.1,(d12 x),(d8 x).1,(d8 x).2.1,(d8 x).2.2.1⟩:zb),(d8 x).2.2.2.1)) (fun y=>(y.1,y.2.1.On,y.2.1.Gone,y.2.1.Height,y.2.1.Time,y.2.1.Id,y.2.1.Set,y.2.1.Pending,y.2.1.Flags,y.2.1.Out,y.2.1.Seen,y.2.2,y.2.1.Ripes)) (fun _=>rfl)) ⟨[1,2,4],[.nilcell 2 7 119 (.ripes [])]⟩ [.cells 70 22,.cells 70 22,.rows 119]
def za69:St→Option LR:=L1 106 8 0 zbhh (.exit 1) za2o (u6 zgi)
def zs98b:=sub (fb Tryz.f87) [0,1,0,1,1,1,1]
theorem zbhi:zk (zy98).env 0 zs98b za69 :=
 zb2 (A:=zbhg) zh98 fM ⟨zbhf,trivial⟩ (k:=zab zs98b) (by kernel_rfl) rfl (by rintro ⟨x0,x1,x2,x3,x4,x5⟩;kernel_rfl)
def zeo (x0:Int) (x1 x2:zb): Tr ((Int×zb×zb)⊕(zb×zb)) :=
 (.guard (((decide (((x1.Ripes.length:Nat):Int) > 0))=true→((0:Int)≤0∧0 < ((Sl.len (.ripes x1.Ripes):Nat):Int))∧True))
 (.ite ((decide (((x1.Ripes.length:Nat):Int) > 0))&&(decide (((x1.Ripes.getD 0 default).Due)≤x0)))
  (.guard ((0:Int)≤0∧0 < ((Sl.len (.ripes x1.Ripes):Nat):Int))
  (.bind (zb0 (⟨2,(x1.Ripes.getD 0 default).Id,0,0,[],[]⟩:Packet) x0 x1) fun v6 =>
  (.ite (v6.1 != 0)
   (.leaf (.inr (v6.2,x2)))
   (.guard ((0:Int)≤1∧1≤(((Sl.len (.ripes v6.2.Ripes):Nat):Int):Int)∧((Sl.len (.ripes v6.2.Ripes):Nat):Int)≤((Sl.len (.ripes v6.2.Ripes):Nat):Int))
   (.leaf (.inl (x0,{ v6.2 with Ripes:=((v6.2.Ripes.drop 1).take ((((Sl.len (.ripes v6.2.Ripes):Nat):Int)).toNat - 1)) },x2)))))))
  (.leaf (.inr (x1,x2)))))
def zcr (x0:Int) (x1 x2:zb):=zbp (fun s:Int×zb×zb=>(zeo s.1 s.2.1 s.2.2).run) (x0,x1,x2)
def zbhj:Ann:=⟨[],[],[],zv98,[(23,[800002])]⟩
def zbhk:=EndD.mk (LQ.v intP (LQ.kp 0 0 (LQ.kp 1 0 (LQ.seq (LP.q zn) (LP.q zn))))) ⟨[1,2,4],[.pubC 2 6,.pubC 2 7]⟩ [.cells 70 22,.cells 70 22]
def za2p:=EndD.mk (LQ.kp 0 0 (LQ.kp 1 0 (LQ.seq (LP.q zn) (LP.q zn)))) ⟨[2,4],[.pubC 2 6,.pubC 2 7]⟩ [.cells 70 22,.cells 70 22]
def za7b:St→Option LR:=L1 106 8 0 zbhk (.exit 5) za2p (u3 zeo)
def zs98c:=sub (fb Tryz.f87) [0,0,1,1,1,1,1,1]
theorem zbhl:zk (zy98).env 0 zs98c za7b :=
 zb2 (A:=zbhj) zh98 fM trivial (k:=zab zs98c) (by kernel_rfl) rfl (by rintro ⟨x0,x1,x2⟩;kernel_rfl)
def zvi (a0:zb) (a1:Int): Tr (zb×Int) :=
 (.bind (ze7 a0) fun v1 =>
 (.ite (!v1)
  (.leaf (a0,2))
  (.ite (!a0.On)
   (.leaf (a0,4))
   (.ite ((decide (a1 < a0.Time))||(decide (a1 > 1099511627776)))
    (.leaf (a0,2))
    (.bind (zf8 a0.Ripes) fun v2 =>
    (.bind (zna a1 a0.Pending ((a0.Pending.length:Nat):Int) 0 ({ a0 with Height:=IntKind.i64.wrap (a0.Height+1),Time:=a1,Ripes:=v2 }) (default:zb)) fun v5 =>
    (.bind (zcr v5.1 ({ v5.2.1 with Pending:=[] }) v5.2.2) fun v7 =>
    (.leaf (v7.1,0)))))))))
def z6 (a0:zb) (a1:Int):=(zvi a0 a1).run
def z2h:SpecT:=zm 0 (LQ.v (Par.ofLP zn) (Par.q intP)) 2 [] (u2 zvi) default (LQ.v (Par.ofLP zn) (Par.q intP)) 2 []
theorem zaa3:ze Tryz.prog 87 (z2h).spec :=
 sK (A:=⟨[([0,1,0,1,1,1,1],za69),([0,0,1,1,1,1,1,1],za7b)],[],[],zv98,[(23,[800002])]⟩) zh98 fM Tryz.func87 (c:=(fb Tryz.f87)) (by kernel_rfl) (Lc:=0) ⟨zbhi,zbhl,trivial⟩ _ _ 8 _ _ _ _ _ _ [.pubB 4] (by rintro ⟨a0,a1⟩;kernel_rfl)
noncomputable def zy99:EnvT:=⟨Tryz.prog,zw [(128,zjc),(139,zqq),(131,zpe)]⟩
theorem zh99:(zy99).Ok:=zd ⟨zlg,zwh,zsx,trivial⟩
def zsy (a0:zb) (a1 a2:Int): Tr (zb×Int) :=
 (.bind (ze7 a0) fun v1 =>
 (.ite (((!v1)||(decide (a2 < 0)))||(decide (a2 > 1099511627776)))
  (.leaf (a0,2))
  (.guard (((((!a0.On)||(decide (a1 < 0)))||(decide (a1≥6)))=false→((zak a0.Set a1).isSome=true)∧True))
  (.ite ((((!a0.On)||(decide (a1 < 0)))||(decide (a1≥6)))||(((zak a0.Set a1).getD default)==0))
   (.leaf (a0,4))
   (.guard ((0:Int)≤a1∧(a1:Int) < 6)
   (.ite (a0.Flags.get a1)
    (.leaf (a0,5))
    (.guard ((zak a0.Set a1).isSome=true)
    (.guard ((zb0 (⟨3,a0.Id,a1,((zak a0.Set a1).getD default),[],[]⟩:Packet) a2 a0).isSome=true)
    (.ite ((((zb0 (⟨3,a0.Id,a1,((zak a0.Set a1).getD default),[],[]⟩:Packet) a2 a0).getD default).1) != 0)
     (.leaf ((((zb0 (⟨3,a0.Id,a1,((zak a0.Set a1).getD default),[],[]⟩:Packet) a2 a0).getD default).2),((zb0 (⟨3,a0.Id,a1,((zak a0.Set a1).getD default),[],[]⟩:Packet) a2 a0).getD default).1))
     (.guard ((0:Int)≤a1∧(a1:Int) < 6)
     (.leaf ({ ((((zb0 (⟨3,a0.Id,a1,((zak a0.Set a1).getD default),[],[]⟩:Packet) a2 a0).getD default).2):zb) with Flags:=(((((zb0 (⟨3,a0.Id,a1,((zak a0.Set a1).getD default),[],[]⟩:Packet) a2 a0).getD default).2).Flags).set a1 true) },0))))))))))))
def ze8 (a0:zb) (a1 a2:Int):=(zsy a0 a1 a2).run
def z0i:SpecT:=zm 0 (LQ.v (Par.ofLP zn) (LQ.v intP (Par.q intP))) 3 [] (u3 zsy) default (LQ.v (Par.ofLP zn) (Par.q intP)) 2 []
theorem z8w:ze Tryz.prog 90 (z0i).spec :=
 sK (A:=⟨[],[],[],[[1,2,3,6],[1,2,3,6,9],[6,7],[1,2,3,6,22],[6,7],[1,2,3,6,42],[6,7],[1,3,6,8],[1,3,6,8,59],[6,7],[3,6],[6,7]],[]⟩) zh99 fM Tryz.func90 (c:=(fb Tryz.f90)) (by kernel_rfl) (Lc:=0) trivial _ _ 4 _ _ _ _ _ _ [.pubB 6] (by rintro ⟨a0,a1,a2⟩;kernel_rfl)
noncomputable def zbhm:EnvT:=⟨Tryz.prog,zw [(128,zjc),(139,zqq),(131,zpe)]⟩
theorem zbhn:(zbhm).Ok:=zd ⟨zlg,zwh,zsx,trivial⟩
def zog (a0:zb) (a1 a2 a3:Int): Tr (zb×Int) :=
 (.bind (ze7 a0) fun v1 =>
 (.ite (((!v1)||(decide (a3 < 0)))||(decide (a3 > 1099511627776)))
  (.leaf (a0,2))
  (.ite (((!a0.On)||(decide (a1 < 0)))||(decide (a1≥6)))
   (.leaf (a0,4))
   (.ite ((decide (a2 < 1))||(decide (a2 > a0.Id)))
    (.leaf (a0,2))
    (.bind (zak a0.Set a1) fun v2 =>
    (.bind (zb0 (⟨4,a2,a1,if v2 > 1 then v2 else 1,[],[]⟩:Packet) a3 a0) fun v3 =>
    (.ite (v3.1 != 0)
     (.leaf (v3.2,v3.1))
     (.leaf (v3.2,0)))))))))
def zdy (a0:zb) (a1 a2 a3:Int):=(zog a0 a1 a2 a3).run
def zwi:SpecT:=zm 0 (LQ.v (Par.ofLP zn) (LQ.v intP (LQ.v intP (Par.q intP)))) 4 [] (u4 zog) default (LQ.v (Par.ofLP zn) (Par.q intP)) 2 []
theorem z5v:ze Tryz.prog 91 (zwi).spec :=
 sK (A:=⟨[],[],[],[[1,2,3,4,8],[1,2,3,4,8,11],[8,9],[1,2,3,4,8,24],[8,9],[1,2,3,4,8,37],[8,9],[4,8,10],[4,8,10,58],[8,9],[8,9]],[]⟩) zbhn fM Tryz.func91 (c:=(fb Tryz.f91)) (by kernel_rfl) (Lc:=0) trivial _ _ 4 _ _ _ _ _ _ [.pubB 8] (by rintro ⟨a0,a1,a2,a3⟩;kernel_rfl)
def zoh (a0:zb): Tr (zb) :=
 (.ite (!a0.On)
  (.leaf a0)
  (.leaf ({ a0 with On:=false,Gone:=true,Out:={ a0.Out with Closed:=true } })))
def ziy (a0:zb):=(zoh a0).run
def zwj:SpecT:=zm 0 (Par.q (Par.ofLP zn)) 1 [] zoh default (Par.q (Par.ofLP zn)) 1 []
theorem z5w:ze Tryz.prog 138 (zwj).spec :=
 sK (A:=⟨[],[],[],[[1,2],[1,2,5],[2],[1,2],[2]],[]⟩) zhN fM Tryz.func138 (c:=(fb Tryz.f138)) (by kernel_rfl) (Lc:=0) trivial _ _ 4 _ _ _ _ _ _ [.pubB 2] (by rintro a0;kernel_rfl)
end
