/-
  The functions, each by its tree.
-/
import Derived.Test.YtobfadhgiaphnaaGreatXAbC
import Derived.Test.YtobfadhgiaphnaaGreatXFCodec
import Derived.Test.YtobfadhgiaphnaaGreatXFLine
import Derived.Test.YtobfadhgiaphnaaGreatXFRatio
import Derived.Test.YtobfadhgiaphnaaGreatXFStakeB
import Derived.Test.YtobfadhgiaphnaaGreatXFacts
namespace Go.Proofs.YtobfadhgiaphnaaGreat.Ab
open Go Go.RowKit
open Go.IntKind (i64 u64)
set_option maxRecDepth 100000
set_option linter.unusedVariables false
set_option linter.unusedSimpArgs false
noncomputable section
noncomputable def zy90:EnvT:=⟨Tryz.prog,zw [(114,zqz)]⟩
theorem zh90:(zy90).Ok:=zd ⟨ztb,trivial⟩
def zpp (a0:Packet): Tr (Bool) :=
 (.bind (zhy a0) fun v1 =>
 (.leaf ((v1 != 0)||(a0.Kind != 1))))
def zv3 (a0:Packet):=(zpp a0).run
def zx9:SpecT:=zn 0 (Par.q (Par.ofLP zdr)) 1 [] zpp default (Par.q boolP) 1 []
theorem z7y:ze Tryz.prog 176 (zx9).spec :=
 sK (A:=⟨[],[],[],[[1],[2]],[]⟩) zh90 fM Tryz.func176 (c:=(fb Tryz.f176)) (by kernel_rfl) (Lc:=0) trivial _ _ 3 _ _ _ _ _ _ [] (by rintro a0;kernel_rfl)
def zv91:List (List Nat):=[[0,1],[0,1,7,8],[0,1,7,8,9],[0,1,5,7,8],[0,1,5,7,8,16],[4],[0,1,7,8],[4]]
noncomputable def zy91:EnvT:=⟨Tryz.prog,zw [(176,zx9)]⟩
theorem zh91:(zy91).Ok:=zd ⟨z7y,trivial⟩
def zax (x0:(List Packet)) (x1 x2:Int): Tr (((List Packet)×Int×Int)⊕((Int)⊕(Unit))) :=
 (.ite (decide (x2 < x1))
  (.guard ((0:Int)≤x2∧x2 < ((Sl.len (.packets x0):Nat):Int))
  (.bind (zv3 (x0.getD x2.toNat default)) fun v1 =>
  (.ite (v1)
   (.leaf (.inr (.inl x2)))
   (.leaf (.inl (x0,x1,i64.wrap (x2+1)))))))
  (.leaf (.inr (.inr ()))))
def zf6 (x0:(List Packet)) (x1 x2:Int):=zbl (fun s:(List Packet)×Int×Int=>(zax s.1 s.2.1 s.2.2).run) (x0,x1,x2)
def zblv:Ann:=⟨[],[],[],zv91,[]⟩
def zblw:=EndD.mk (LQ.v zal (LQ.k (LQ.c (.fn 176 [])) (LQ.v intP (Par.q intP)))) ⟨[0,1,7,8],[.pub 0,.nilsl 0 (.packets [])]⟩ []
def za5s:=EndD.mk (Par.q intP) ⟨[4],[]⟩ []
def za5t:EndD (Unit):=⟨LQ.nil,⟨[],[]⟩,[]⟩
def zbbe:St→Option LR:=L2 19 2 0 zblw .ret za5s (.exit 0) za5t (u3 zax)
def zs91a:=sub (fb Tryz.f200) [0,1,0,1]
theorem zblx:zk (zy91).env 0 zs91a zbbe :=
 zgs (A:=zblv) zh91 fM trivial (k:=z8 zs91a) (by kernel_rfl) rfl rfl (by rintro ⟨x0,x1,x2⟩;kernel_rfl)
def zcf (a0:(List Packet)): Tr (Int) :=
 (.two (zf6 a0 ((a0.length:Nat):Int) 0) (fun v2 =>
  (.leaf v2)) (fun v3 =>
  (.leaf (-1))))
def zd4 (a0:(List Packet)):=(zcf a0).run
def zir:SpecT:=zn 0 (LQ.skipR (Par.q zal) (LQ.c (.fn 176 []))) 2 [] zcf default (Par.q intP) 1 []
theorem zq1:ze Tryz.prog 200 (zir).spec :=
 sK (A:=⟨[([0,1,0,1],zbbe)],[],[],zv91,[]⟩) zh91 fM Tryz.func200 (c:=(fb Tryz.f200)) (by kernel_rfl) (Lc:=0) ⟨zblx,trivial⟩ _ _ 2 _ _ _ _ _ _ [] (by rintro a0;kernel_rfl)
noncomputable def zy92:EnvT:=⟨Tryz.prog,zw [(200,zir)]⟩
theorem zh92:(zy92).Ok:=zd ⟨zq1,trivial⟩
def zdn (a0:(List Packet)): Tr (Bool) :=
 (.bind (zd4 a0) fun v1 =>
 (.leaf (decide (v1≥0))))
def zc1 (a0:(List Packet)):=(zdn a0).run
def zgr:SpecT:=zn 0 (LQ.skipR (Par.q zal) (LQ.c (.fn 176 []))) 2 [] zdn default (Par.q boolP) 1 []
theorem zob:ze Tryz.prog 175 (zgr).spec :=
 sK (A:=⟨[],[],[],[[0,1],[4]],[]⟩) zh92 fM Tryz.func175 (c:=(fb Tryz.f175)) (by kernel_rfl) (Lc:=0) trivial _ _ 2 _ _ _ _ _ _ [] (by rintro a0;kernel_rfl)
def zv93:List (List Nat):=[[1],[1,48],[2],[1,50,51,52],[1,50,51,52,53],[1,3,4,50,51,52],[1,50,51,52,90],[2],[1,50,51,52],[1,93,94,95],[1,93,94,95,96],[1,6,93,94,95],[1,93,94,95,111],[2],[1,93,94,95],[2]]
noncomputable def zy93:EnvT:=⟨Tryz.prog,zw [(111,zpi),(175,zgr)]⟩
theorem zh93:(zy93).Ok:=zd ⟨zqx,zob,trivial⟩
def zjv (x0:(List Power)) (x1 x2:Int) (x3:zb): Tr (((List Power)×Int×Int×zb)⊕((Bool)⊕(zb))) :=
 (.ite (decide (x2 < x1))
  (.guard ((0:Int)≤x2∧x2 < ((Sl.len (.powers x0):Nat):Int))
  (.guard (((decide (x2 > 0))=true→(((decide (((x0.getD x2.toNat default).V) < 0))||(decide (((x0.getD x2.toNat default).V)≥6)))=false→((0:Int)≤(i64.wrap (x2 - 1))∧(i64.wrap (x2 - 1)) < ((Sl.len (.powers x3.Set):Nat):Int))∧True)))
  (.ite (((((decide (((x0.getD x2.toNat default).V) < 0))||(decide (((x0.getD x2.toNat default).V)≥6)))||((decide (x2 > 0))&&(decide (((x3.Set.getD ((i64.wrap (x2 - 1)).toNat) default).V)≥((x0.getD x2.toNat default).V)))))||(decide (((x0.getD x2.toNat default).N) < 1)))||(decide (((x0.getD x2.toNat default).N) > 1125899906842624)))
   (.leaf (.inr (.inl false)))
   (.leaf (.inl (x0,x1,i64.wrap (x2+1),x3))))))
  (.leaf (.inr (.inr x3))))
def zuc (x0:(List Power)) (x1 x2:Int) (x3:zb):=zbl (fun s:(List Power)×Int×Int×zb=>(zjv s.1 s.2.1 s.2.2.1 s.2.2.2).run) (x0,x1,x2,x3)
def zbl1:Ann:=⟨[],[],[],zv93,[]⟩
def zbl2:=EndD.mk (LQ.kp 0 0 (LQ.v zf (LQ.v intP (LQ.v intP (LP.q zm))))) ⟨[1,50,51,52],[.pub 50,.nilsl 50 (.powers [])]⟩ [.cells 70 22]
def za5u:=EndD.mk (Par.q boolP) ⟨[2],[]⟩ []
def za5v:=EndD.mk (LQ.kp 0 0 (LP.q zm)) ⟨[1],[]⟩ [.cells 70 22]
def zbbf:St→Option LR:=L2 117 4 0 zbl2 .ret za5u (.exit 0) za5v (u4 zjv)
def zs93a:=sub (fb Tryz.f128) [0,1,0,1,1]
theorem zbl3:zk (zy93).env 0 zs93a zbbf :=
 zgs (A:=zbl1) zh93 fM trivial (k:=z8 zs93a) (by kernel_rfl) rfl rfl (by rintro ⟨x0,x1,x2,x3⟩;kernel_rfl)
def zei (x0:(List Ripe)) (x1 x2:Int) (x3:zb): Tr (((List Ripe)×Int×Int×zb)⊕((Bool)⊕(zb))) :=
 (.ite (decide (x2 < x1))
  (.guard ((0:Int)≤x2∧x2 < ((Sl.len (.ripes x0):Nat):Int))
  (.ite (((decide (((x0.getD x2.toNat default).Id) < 1))||(decide (((x0.getD x2.toNat default).Id) > 1099511627776)))||(decide (((x0.getD x2.toNat default).Due) < 0)))
   (.leaf (.inr (.inl false)))
   (.leaf (.inl (x0,x1,i64.wrap (x2+1),x3)))))
  (.leaf (.inr (.inr x3))))
def zmx (x0:(List Ripe)) (x1 x2:Int) (x3:zb):=zbl (fun s:(List Ripe)×Int×Int×zb=>(zei s.1 s.2.1 s.2.2.1 s.2.2.2).run) (x0,x1,x2,x3)
def zbl4:Ann:=⟨[],[],[],zv93,[]⟩
def zbl5:=EndD.mk (LQ.kp 0 0 (LQ.v znd (LQ.v intP (LQ.v intP (LP.q zm))))) ⟨[1,93,94,95],[.pub 93,.nilsl 93 (.ripes [])]⟩ [.cells 70 22]
def za5w:=EndD.mk (Par.q boolP) ⟨[2],[]⟩ []
def za5x:=EndD.mk (LQ.kp 0 0 (LP.q zm)) ⟨[1],[]⟩ [.cells 70 22]
def zbbg:St→Option LR:=L2 117 4 0 zbl5 .ret za5w (.exit 2) za5x (u4 zei)
def zs93b:=sub (fb Tryz.f128) [0,1,0,1,1,1]
theorem zbl6:zk (zy93).env 0 zs93b zbbg :=
 zgs (A:=zbl4) zh93 fM trivial (k:=z8 zs93b) (by kernel_rfl) rfl rfl (by rintro ⟨x0,x1,x2,x3⟩;kernel_rfl)
def zud (a0:zb): Tr (Bool) :=
 (.guard (((((((((a0.On&&a0.Gone)||(decide (a0.Height < 0)))||(decide (a0.Height≥1099511627776)))||(decide (a0.Time < 0)))||(decide (a0.Time > 1099511627776)))||(decide (a0.Id < 0)))||(decide (a0.Id > 1099511627776)))=false→((zf3 a0.Out).isSome=true)∧True))
 (.ite ((((((((a0.On&&a0.Gone)||(decide (a0.Height < 0)))||(decide (a0.Height≥1099511627776)))||(decide (a0.Time < 0)))||(decide (a0.Time > 1099511627776)))||(decide (a0.Id < 0)))||(decide (a0.Id > 1099511627776)))||(!((zf3 a0.Out).getD default)))
  (.leaf false)
  (.two (zuc a0.Set ((a0.Set.length:Nat):Int) 0 a0) (fun v1 =>
   (.leaf v1)) (fun v2 =>
   (.two (zmx v2.Ripes ((v2.Ripes.length:Nat):Int) 0 v2) (fun v3 =>
    (.leaf v3)) (fun v4 =>
    (.bind (zc1 v4.Pending) fun v5 =>
    (.leaf (!v5)))))))))
def zfz (a0:zb):=(zud a0).run
def zka:SpecT:=zn 0 (Par.q (Par.ofLP zm)) 1 [] zud default (Par.q boolP) 1 []
theorem zmk:ze Tryz.prog 128 (zka).spec :=
 sK (A:=⟨[([0,1,0,1,1],zbbf),([0,1,0,1,1,1],zbbg)],[],[],zv93,[]⟩) zh93 fM Tryz.func128 (c:=(fb Tryz.f128)) (by kernel_rfl) (Lc:=0) ⟨zbl3,zbl6,trivial⟩ _ _ 4 _ _ _ _ _ _ [] (by rintro a0;kernel_rfl)
noncomputable def zy94:EnvT:=⟨Tryz.prog,zw [(127,zng)]⟩
theorem zh94:(zy94).Ok:=zd ⟨zwz,trivial⟩
def zr2 (a0:(List Power)) (a1 a2:Int): Tr (zb) :=
 (.bind (zgj a0) fun v1 =>
 (.leaf (⟨true,false,0,a2,a1,v1,[],[],(⟨false,false,false,false,false,false⟩:(A6 Bool)),(⟨[],[],0,false⟩:zbs),(⟨0,0,0,0⟩:Head)⟩:zb)))
def zk7 (a0:(List Power)) (a1 a2:Int):=(zr2 a0 a1 a2).run
def z0u:SpecT:=zn 0 (LQ.v zf (LQ.v intP (Par.q intP))) 3 [] (u3 zr2) default (Par.q (Par.ofLP zm)) 1 []
theorem z9f:ze Tryz.prog 86 (z0u).spec :=
 sK (A:=⟨[],[],[],[[0,1,2,6],[6]],[]⟩) zh94 fM Tryz.func86 (c:=(fb Tryz.f86)) (by kernel_rfl) (Lc:=0) trivial _ _ 4 _ _ _ _ _ _ [.pubB 6] (by rintro ⟨a0,a1,a2⟩;kernel_rfl)
noncomputable def zy95:EnvT:=⟨Tryz.prog,zw [(178,zw8),(128,zka),(180,zl2)]⟩
theorem zh95:(zy95).Ok:=zd ⟨z14,zmk,zvh,trivial⟩
def zue (a0:zb) (a1:ByteArray): Tr (zb×Int) :=
 (.bind (zg6 a1) fun v1 =>
 (.bind (zfz a0) fun v2 =>
 (.ite (!v2)
  (.leaf (a0,2))
  (.ite (!a0.On)
   (.leaf (a0,4))
   (.ite (v1.2 != 0)
    (.leaf (a0,v1.2))
    (.ite (v1.1.Kind != 1)
     (.leaf (a0,3))
     (.guard ((zby a0.Pending).isSome=true)
     (.guard ((Sl.len (.packets ((zby a0.Pending).getD default))+Sl.len (.packets [v1.1]))*80≤140737488355328)
     (.leaf ({ a0 with Pending:=((zby a0.Pending).getD default)++[v1.1] },0))))))))))
def zml (a0:zb) (a1:ByteArray):=(zue a0 a1).run
def z2e:SpecT:=zn 0 (LQ.v (Par.ofLP zm) (Par.q z67)) 2 [] (u2 zue) default (LQ.v (Par.ofLP zm) (Par.q intP)) 2 []
theorem zaa2:ze Tryz.prog 135 (z2e).spec :=
 sK (A:=⟨[],[],[],[[1,2,4],[2,4,6,7],[2,4,6,7,13],[4,5],[2,4,6,7,18],[4,5],[2,4,6,7,23],[4,5],[2,4,6,28],[4,5],[2,4],[4,5]],[]⟩) zh95 fM Tryz.func135 (c:=(fb Tryz.f135)) (by kernel_rfl) (Lc:=0) trivial _ _ 8 _ _ _ _ _ _ [.pubB 4] (by rintro ⟨a0,a1⟩;kernel_rfl)
noncomputable def zy96:EnvT:=⟨Tryz.prog,zw [(173,zqm),(174,z9d)]⟩
theorem zh96:(zy96).Ok:=zd ⟨zt4,zacz,trivial⟩
def zxc (a0:Packet) (a1:Int) (a2:zb): Tr (Int×zb) :=
 (.bind (zb9 a0) fun v1 =>
 (.ite (v1.2 != 0)
  (.leaf (v1.2,a2))
  (.bind (zzq a2.Out v1.1 (i64.wrap (a1+40))) fun v2 =>
  (.ite (v2.2 != 0)
   (.leaf (v2.2,a2))
   (.leaf (0,{ a2 with Out:=v2.1 }))))))
def zca (a0:Packet) (a1:Int) (a2:zb):=(zxc a0 a1 a2).run
def zqn:SpecT:=zn 1 (LQ.kp 0 0 (LQ.v (Par.ofLP zdr) (LQ.v intP (LP.q zm)))) 3 [.cells 70 22] (u3 zxc) default (LQ.v intP (LP.q zm)) 1 [.cells 70 22]
theorem zuf:ze Tryz.prog 131 (zqn).spec :=
 sK (A:=⟨[],[],[],[[0,2,4],[0,2,7,8],[0,2,7,8,16],[6],[0,8,9],[0,8,9,30],[6],[],[6]],[]⟩) zh96 fM Tryz.func131 (c:=(fb Tryz.f131)) (by kernel_rfl) (Lc:=1) trivial _ _ 5 _ _ _ _ _ _ [.pubN 0] (by rintro ⟨a0,a1,a2⟩;kernel_rfl)
def zv97:List (List Nat):=[[0,1],[1,7,8,9],[1,7,8,9,10],[1,6,7,8,9],[1,6,7,8,9,16],[4],[1,7,8,9],[4]]
def zfj (x0:Int) (x1:(List Power)) (x2 x3:Int): Tr ((Int×(List Power)×Int×Int)⊕((Int)⊕(Unit))) :=
 (.ite (decide (x3 < x2))
  (.guard ((0:Int)≤x3∧x3 < ((Sl.len (.powers x1):Nat):Int))
  (.ite (((x1.getD x3.toNat default).V)==x0)
   (.leaf (.inr (.inl ((x1.getD x3.toNat default).N))))
   (.leaf (.inl (x0,x1,x2,i64.wrap (x3+1))))))
  (.leaf (.inr (.inr ()))))
def zso (x0:Int) (x1:(List Power)) (x2 x3:Int):=zbl (fun s:Int×(List Power)×Int×Int=>(zfj s.1 s.2.1 s.2.2.1 s.2.2.2).run) (x0,x1,x2,x3)
def zbl7:Ann:=⟨[],[],[],zv97,[]⟩
def zbl8:=EndD.mk (LQ.v intP (LQ.v zf (LQ.v intP (Par.q intP)))) ⟨[1,7,8,9],[.pub 7,.nilsl 7 (.powers [])]⟩ []
def za5y:=EndD.mk (Par.q intP) ⟨[4],[]⟩ []
def za5z:EndD (Unit):=⟨LQ.nil,⟨[],[]⟩,[]⟩
def zbbh:St→Option LR:=L2 20 3 0 zbl8 .ret za5y (.exit 0) za5z (u4 zfj)
def zs97a:=sub (fb Tryz.f139) [0,1,0,1]
theorem zbl9:zk (zyN).env 0 zs97a zbbh :=
 zgs (A:=zbl7) zhN fM trivial (k:=z8 zs97a) (by kernel_rfl) rfl rfl (by rintro ⟨x0,x1,x2,x3⟩;kernel_rfl)
def zr3 (a0:(List Power)) (a1:Int): Tr (Int) :=
 (.two (zso a1 a0 ((a0.length:Nat):Int) 0) (fun v1 =>
  (.leaf v1)) (fun v2 =>
  (.leaf 0)))
def zaq (a0:(List Power)) (a1:Int):=(zr3 a0 a1).run
def zr4:SpecT:=zn 0 (LQ.v zf (Par.q intP)) 2 [] (u2 zr3) default (Par.q intP) 1 []
theorem zya:ze Tryz.prog 139 (zr4).spec :=
 sK (A:=⟨[([0,1,0,1],zbbh)],[],[],zv97,[]⟩) zhN fM Tryz.func139 (c:=(fb Tryz.f139)) (by kernel_rfl) (Lc:=0) ⟨zbl9,trivial⟩ _ _ 3 _ _ _ _ _ _ [] (by rintro ⟨a0,a1⟩;kernel_rfl)
def zv98:List (List Nat):=[[1,2,4],[1,2,4,10],[4,5],[1,2,4,15],[4,5],[1,2,4,20],[4,5],[1,2,4],[1,2,4],[1,2,4,41,42,43],[1,2,4,41,42,43,44],[1,2,4,7,41,42,43],[1,2,4,7,41,42,43],[1,2,4,7,41,42,43],[1,2,4,7,41,42,43,57,58,59],[1,2,4,7,41,42,43,57,58,59,60],[1,2,4,7,9,41,42,43,57,58,59],[1,2,4,7,41,42,43,57,58,59],[1,2,4,7,41,42,43,57,58,59],[1,2,4,41,42,43],[1,2,4,41,42,43],[1,2,4],[1,2,4,91],[1,2,4,100],[1,2,4],[4,5]]
noncomputable def zy98:EnvT:=⟨Tryz.prog,zw [(128,zka),(129,zny),(130,z7x),(131,zqn)]⟩
theorem zh98:(zy98).Ok:=zd ⟨zmk,zx6,zafl,zuf,trivial⟩
def zha (x0:Int) (x1:(List Packet)) (x2 x3:Int) (x4:(List Int)) (x5 x6:Int) (x7 x8:zb) (x9:Packet): Tr ((Int×(List Packet)×Int×Int×(List Int)×Int×Int×zb×zb×Packet)⊕(Int×(List Packet)×Int×Int×zb×zb×Packet)) :=
 (.ite (decide (x6 < x5))
  (.guard ((0:Int)≤x6∧x6 < ((Sl.len (.ints x4):Nat):Int))
  (.guard ((0:Int)≤(x4.getD x6.toNat 0)∧((x4.getD x6.toNat 0):Int) < 6)
  (.leaf (.inl (x0,x1,x2,x3,x4,x5,i64.wrap (x6+1),{ x7 with Flags:=(x7.Flags.set (x4.getD x6.toNat 0) false) },x8,x9)))))
  (.leaf (.inr (x0,x1,x2,x3,x7,x8,x9))))
def zoc (x0:Int) (x1:(List Packet)) (x2 x3:Int) (x4:(List Int)) (x5 x6:Int) (x7 x8:zb) (x9:Packet):=zbl (fun s:Int×(List Packet)×Int×Int×(List Int)×Int×Int×zb×zb×Packet=>(zha s.1 s.2.1 s.2.2.1 s.2.2.2.1 s.2.2.2.2.1 s.2.2.2.2.2.1 s.2.2.2.2.2.2.1 s.2.2.2.2.2.2.2.1 s.2.2.2.2.2.2.2.2.1 s.2.2.2.2.2.2.2.2.2).run) (x0,x1,x2,x3,x4,x5,x6,x7,x8,x9)
def zbma:Ann:=⟨[],[],[],zv98,[(23,[800002])]⟩
def zbmb:=EndD.mk (LQ.map (LQ.v intP (LQ.kp 0 0 (LQ.kp 1 0 (LQ.kp 2 0 (LQ.v zal (LQ.v intP (LQ.v intP (LQ.v za7 (LQ.v intP (LQ.v intP (LQ.v boolP (LQ.v boolP (LQ.v intP (LQ.v intP (LQ.v intP (LQ.v zf (LQ.v zal (LQ.k (LQ.c (.own 3)) (LQ.seq (LP.q (a6L (LP.one boolP))) (LQ.seq (LP.q lineL) (LQ.seq (LP.q zy8) (LQ.seq (LP.q zm) (LQ.seq (LP.q zdr) (Par.q znd)))))))))))))))))))))))) (fun x=>(x.1,x.2.1,x.2.2.1,x.2.2.2.1,(d4 x).1,(d4 x).2.1,(d4 x).2.2.1,(⟨(d4 x).2.2.2.1,(d8 x).1,(d8 x).2.1,(d8 x).2.2.1,(d8 x).2.2.2.1,(d12 x).1,(d12 x).2.1,(d16 x).2.2.2,(d12 x).2.2.1,(d12 x).2.2.2.1,(d16 x).1⟩:zb),(d16 x).2.1,(d16 x).2.2.1)) (fun y=>(y.1,y.2.1,y.2.2.1,y.2.2.2.1,(d4 y).1,(d4 y).2.1,(d4 y).2.2.1,(d4 y).2.2.2.1.On,(d4 y).2.2.2.1.Gone,(d4 y).2.2.2.1.Height,(d4 y).2.2.2.1.Time,(d4 y).2.2.2.1.Id,(d4 y).2.2.2.1.Set,(d4 y).2.2.2.1.Pending,(d4 y).2.2.2.1.Flags,(d4 y).2.2.2.1.Out,(d4 y).2.2.2.1.Seen,(d8 y).1,(d8 y).2,(d4 y).2.2.2.1.Ripes)) (fun _=>rfl)) ⟨[1,2,4,7,41,42,43,57,58,59],[.nilcell 2 7 119 (.ripes []),.pub 41,.nilsl 41 (.packets []),.pub 57,.nilsl 57 (.ints [])]⟩ [.cells 70 22,.cells 70 22,.cells 110 6,.rows 119]
def za50:=EndD.mk (LQ.map (LQ.v intP (LQ.kp 0 0 (LQ.kp 1 0 (LQ.kp 2 0 (LQ.v zal (LQ.v intP (LQ.v intP (LQ.v boolP (LQ.v boolP (LQ.v intP (LQ.v intP (LQ.v intP (LQ.v zf (LQ.v zal (LQ.k (LQ.c (.own 3)) (LQ.seq (LP.q (a6L (LP.one boolP))) (LQ.seq (LP.q lineL) (LQ.seq (LP.q zy8) (LQ.seq (LP.q zm) (LQ.seq (LP.q zdr) (Par.q znd))))))))))))))))))))) (fun x=>(x.1,x.2.1,x.2.2.1,x.2.2.2.1,(⟨(d4 x).1,(d4 x).2.1,(d4 x).2.2.1,(d4 x).2.2.2.1,(d8 x).1,(d8 x).2.1,(d8 x).2.2.1,(d16 x),(d8 x).2.2.2.1,(d12 x).1,(d12 x).2.1⟩:zb),(d12 x).2.2.1,(d12 x).2.2.2.1)) (fun y=>(y.1,y.2.1,y.2.2.1,y.2.2.2.1,(d4 y).1.On,(d4 y).1.Gone,(d4 y).1.Height,(d4 y).1.Time,(d4 y).1.Id,(d4 y).1.Set,(d4 y).1.Pending,(d4 y).1.Flags,(d4 y).1.Out,(d4 y).1.Seen,(d4 y).2.1,(d4 y).2.2,(d4 y).1.Ripes)) (fun _=>rfl)) ⟨[1,2,4,7,41,42,43],[.nilcell 2 7 119 (.ripes []),.pub 41,.nilsl 41 (.packets [])]⟩ [.cells 70 22,.cells 70 22,.cells 110 6,.rows 119]
def zbbi:St→Option LR:=L1 106 8 0 zbmb (.exit 3) za50 (u10 zha)
def zs98a:=sub (fb Tryz.f87) [0,1,0,1,1,1,0,0,1,1,0,0,1,0,1,1,1,1]
theorem zbmc:zk (zy98).env 0 zs98a zbbi :=
 zb5 (A:=zbma) zh98 fM trivial (k:=z8 zs98a) (by kernel_rfl) rfl (by rintro ⟨x0,x1,x2,x3,x4,x5,x6,x7,x8,x9⟩;kernel_rfl)
def zhb (x0:Int) (x1:(List Packet)) (x2 x3:Int) (x4 x5:zb): Tr ((Int×(List Packet)×Int×Int×zb×zb)⊕(Int×zb×zb)) :=
 (.ite (decide (x3 < x2))
  (.guard ((0:Int)≤x3∧x3 < ((Sl.len (.packets x1):Nat):Int))
  (.bind (zxb x4.Set ((x1.getD x3.toNat default).Set)) fun v3 =>
  (.bind (zoc x0 x1 x2 x3 ((x1.getD x3.toNat default).Done) ((((x1.getD x3.toNat default).Done).length:Nat):Int) 0 ({ x4 with Id:=(x1.getD x3.toNat default).Id,Set:=v3 }) x5 (x1.getD x3.toNat default)) fun v4 =>
  (.guard ((Sl.len (.ripes v4.2.2.2.2.1.Ripes)+Sl.len (.ripes [(⟨v4.2.2.2.2.2.2.Id,i64.wrap (v4.1+15)⟩:Ripe)]))*16≤140737488355328)
  (.leaf (.inl (v4.1,v4.2.1,v4.2.2.1,i64.wrap (v4.2.2.2.1+1),{ v4.2.2.2.2.1 with Ripes:=v4.2.2.2.2.1.Ripes++[(⟨v4.2.2.2.2.2.2.Id,i64.wrap (v4.1+15)⟩:Ripe)] },v4.2.2.2.2.2.1)))))))
  (.leaf (.inr (x0,x4,x5))))
def zod (x0:Int) (x1:(List Packet)) (x2 x3:Int) (x4 x5:zb):=zbl (fun s:Int×(List Packet)×Int×Int×zb×zb=>(zhb s.1 s.2.1 s.2.2.1 s.2.2.2.1 s.2.2.2.2.1 s.2.2.2.2.2).run) (x0,x1,x2,x3,x4,x5)
def zbmd:Ann:=⟨[([0,1,0,1,1,1,0,0,1,1,0,0,1,0,1,1,1,1],zbbi)],[],[],zv98,[(23,[800002])]⟩
def zbme:=EndD.mk (LQ.map (LQ.v intP (LQ.kp 0 0 (LQ.kp 1 0 (LQ.v zal (LQ.v intP (LQ.v intP (LQ.v boolP (LQ.v boolP (LQ.v intP (LQ.v intP (LQ.v intP (LQ.v zf (LQ.v zal (LQ.k (LQ.c (.own 2)) (LQ.seq (LP.q (a6L (LP.one boolP))) (LQ.seq (LP.q lineL) (LQ.seq (LP.q zy8) (LQ.seq (LP.q zm) (Par.q znd))))))))))))))))))) (fun x=>(x.1,x.2.1,x.2.2.1,x.2.2.2.1,(⟨(d4 x).1,(d4 x).2.1,(d4 x).2.2.1,(d4 x).2.2.2.1,(d8 x).1,(d8 x).2.1,(d8 x).2.2.1,(d12 x).2.2.2,(d8 x).2.2.2.1,(d12 x).1,(d12 x).2.1⟩:zb),(d12 x).2.2.1)) (fun y=>(y.1,y.2.1,y.2.2.1,y.2.2.2.1,(d4 y).1.On,(d4 y).1.Gone,(d4 y).1.Height,(d4 y).1.Time,(d4 y).1.Id,(d4 y).1.Set,(d4 y).1.Pending,(d4 y).1.Flags,(d4 y).1.Out,(d4 y).1.Seen,(d4 y).2,(d4 y).1.Ripes)) (fun _=>rfl)) ⟨[1,2,4,41,42,43],[.nilcell 2 7 119 (.ripes []),.pub 41,.nilsl 41 (.packets [])]⟩ [.cells 70 22,.cells 70 22,.rows 119]
def za51:=EndD.mk (LQ.map (LQ.v intP (LQ.kp 0 0 (LQ.kp 1 0 (LQ.v boolP (LQ.v boolP (LQ.v intP (LQ.v intP (LQ.v intP (LQ.v zf (LQ.v zal (LQ.k (LQ.c (.own 2)) (LQ.seq (LP.q (a6L (LP.one boolP))) (LQ.seq (LP.q lineL) (LQ.seq (LP.q zy8) (LQ.seq (LP.q zm) (Par.q znd)))))))))))))))) (fun x=>(x.1,(⟨x.2.1,x.2.2.1,x.2.2.2.1,(d4 x).1,(d4 x).2.1,(d4 x).2.2.1,(d4 x).2.2.2.1,(d12 x),(d8 x).1,(d8 x).2.1,(d8 x).2.2.1⟩:zb),(d8 x).2.2.2.1)) (fun y=>(y.1,y.2.1.On,y.2.1.Gone,y.2.1.Height,y.2.1.Time,y.2.1.Id,y.2.1.Set,y.2.1.Pending,y.2.1.Flags,y.2.1.Out,y.2.1.Seen,y.2.2,y.2.1.Ripes)) (fun _=>rfl)) ⟨[1,2,4],[.nilcell 2 7 119 (.ripes [])]⟩ [.cells 70 22,.cells 70 22,.rows 119]
def zbbj:St→Option LR:=L1 106 8 0 zbme (.exit 1) za51 (u6 zhb)
def zs98b:=sub (fb Tryz.f87) [0,1,0,1,1,1,1]
theorem zbmf:zk (zy98).env 0 zs98b zbbj :=
 zb5 (A:=zbmd) zh98 fM ⟨zbmc,trivial⟩ (k:=z8 zs98b) (by kernel_rfl) rfl (by rintro ⟨x0,x1,x2,x3,x4,x5⟩;kernel_rfl)
def zfc (x0:Int) (x1 x2:zb): Tr ((Int×zb×zb)⊕(zb×zb)) :=
 (.guard (((decide (((x1.Ripes.length:Nat):Int) > 0))=true→((0:Int)≤0∧0 < ((Sl.len (.ripes x1.Ripes):Nat):Int))∧True))
 (.ite ((decide (((x1.Ripes.length:Nat):Int) > 0))&&(decide (((x1.Ripes.getD 0 default).Due)≤x0)))
  (.guard ((0:Int)≤0∧0 < ((Sl.len (.ripes x1.Ripes):Nat):Int))
  (.bind (zca (⟨2,(x1.Ripes.getD 0 default).Id,0,0,[],[]⟩:Packet) x0 x1) fun v6 =>
  (.ite (v6.1 != 0)
   (.leaf (.inr (v6.2,x2)))
   (.guard ((0:Int)≤1∧1≤(((Sl.len (.ripes v6.2.Ripes):Nat):Int):Int)∧((Sl.len (.ripes v6.2.Ripes):Nat):Int)≤((Sl.len (.ripes v6.2.Ripes):Nat):Int))
   (.leaf (.inl (x0,{ v6.2 with Ripes:=((v6.2.Ripes.drop 1).take ((((Sl.len (.ripes v6.2.Ripes):Nat):Int)).toNat - 1)) },x2)))))))
  (.leaf (.inr (x1,x2)))))
def zc2 (x0:Int) (x1 x2:zb):=zbl (fun s:Int×zb×zb=>(zfc s.1 s.2.1 s.2.2).run) (x0,x1,x2)
def zbmg:Ann:=⟨[],[],[],zv98,[(23,[800002])]⟩
def zbmh:=EndD.mk (LQ.v intP (LQ.kp 0 0 (LQ.kp 1 0 (LQ.seq (LP.q zm) (LP.q zm))))) ⟨[1,2,4],[.pubC 2 6,.pubC 2 7]⟩ [.cells 70 22,.cells 70 22]
def za52:=EndD.mk (LQ.kp 0 0 (LQ.kp 1 0 (LQ.seq (LP.q zm) (LP.q zm)))) ⟨[2,4],[.pubC 2 6,.pubC 2 7]⟩ [.cells 70 22,.cells 70 22]
def zbbk:St→Option LR:=L1 106 8 0 zbmh (.exit 5) za52 (u3 zfc)
def zs98c:=sub (fb Tryz.f87) [0,0,1,1,1,1,1,1]
theorem zbmi:zk (zy98).env 0 zs98c zbbk :=
 zb5 (A:=zbmg) zh98 fM trivial (k:=z8 zs98c) (by kernel_rfl) rfl (by rintro ⟨x0,x1,x2⟩;kernel_rfl)
def zxd (a0:zb) (a1:Int): Tr (zb×Int) :=
 (.bind (zfz a0) fun v1 =>
 (.ite (!v1)
  (.leaf (a0,2))
  (.ite (!a0.On)
   (.leaf (a0,4))
   (.ite ((decide (a1 < a0.Time))||(decide (a1 > 1099511627776)))
    (.leaf (a0,2))
    (.bind (zg1 a0.Ripes) fun v2 =>
    (.bind (zod a1 a0.Pending ((a0.Pending.length:Nat):Int) 0 ({ a0 with Height:=i64.wrap (a0.Height+1),Time:=a1,Ripes:=v2 }) (default:zb)) fun v5 =>
    (.bind (zc2 v5.1 ({ v5.2.1 with Pending:=[] }) v5.2.2) fun v7 =>
    (.leaf (v7.1,0)))))))))
def z9 (a0:zb) (a1:Int):=(zxd a0 a1).run
def z4k:SpecT:=zn 0 (LQ.v (Par.ofLP zm) (Par.q intP)) 2 [] (u2 zxd) default (LQ.v (Par.ofLP zm) (Par.q intP)) 2 []
theorem zadb:ze Tryz.prog 87 (z4k).spec :=
 sK (A:=⟨[([0,1,0,1,1,1,1],zbbj),([0,0,1,1,1,1,1,1],zbbk)],[],[],zv98,[(23,[800002])]⟩) zh98 fM Tryz.func87 (c:=(fb Tryz.f87)) (by kernel_rfl) (Lc:=0) ⟨zbmf,zbmi,trivial⟩ _ _ 8 _ _ _ _ _ _ [.pubB 4] (by rintro ⟨a0,a1⟩;kernel_rfl)
noncomputable def zy99:EnvT:=⟨Tryz.prog,zw [(128,zka),(139,zr4),(131,zqn)]⟩
theorem zh99:(zy99).Ok:=zd ⟨zmk,zya,zuf,trivial⟩
def zug (a0:zb) (a1 a2:Int): Tr (zb×Int) :=
 (.bind (zfz a0) fun v1 =>
 (.ite (((!v1)||(decide (a2 < 0)))||(decide (a2 > 1099511627776)))
  (.leaf (a0,2))
  (.guard (((((!a0.On)||(decide (a1 < 0)))||(decide (a1≥6)))=false→((zaq a0.Set a1).isSome=true)∧True))
  (.ite ((((!a0.On)||(decide (a1 < 0)))||(decide (a1≥6)))||(((zaq a0.Set a1).getD default)==0))
   (.leaf (a0,4))
   (.guard ((0:Int)≤a1∧(a1:Int) < 6)
   (.ite (a0.Flags.get a1)
    (.leaf (a0,5))
    (.guard ((zaq a0.Set a1).isSome=true)
    (.guard ((zca (⟨3,a0.Id,a1,((zaq a0.Set a1).getD default),[],[]⟩:Packet) a2 a0).isSome=true)
    (.ite ((((zca (⟨3,a0.Id,a1,((zaq a0.Set a1).getD default),[],[]⟩:Packet) a2 a0).getD default).1) != 0)
     (.leaf ((((zca (⟨3,a0.Id,a1,((zaq a0.Set a1).getD default),[],[]⟩:Packet) a2 a0).getD default).2),((zca (⟨3,a0.Id,a1,((zaq a0.Set a1).getD default),[],[]⟩:Packet) a2 a0).getD default).1))
     (.guard ((0:Int)≤a1∧(a1:Int) < 6)
     (.leaf ({ ((((zca (⟨3,a0.Id,a1,((zaq a0.Set a1).getD default),[],[]⟩:Packet) a2 a0).getD default).2):zb) with Flags:=(((((zca (⟨3,a0.Id,a1,((zaq a0.Set a1).getD default),[],[]⟩:Packet) a2 a0).getD default).2).Flags).set a1 true) },0))))))))))))
def zf0 (a0:zb) (a1 a2:Int):=(zug a0 a1 a2).run
def z2f:SpecT:=zn 0 (LQ.v (Par.ofLP zm) (LQ.v intP (Par.q intP))) 3 [] (u3 zug) default (LQ.v (Par.ofLP zm) (Par.q intP)) 2 []
theorem zaa3:ze Tryz.prog 90 (z2f).spec :=
 sK (A:=⟨[],[],[],[[1,2,3,6],[1,2,3,6,9],[6,7],[1,2,3,6,22],[6,7],[1,2,3,6,42],[6,7],[1,3,6,8],[1,3,6,8,59],[6,7],[3,6],[6,7]],[]⟩) zh99 fM Tryz.func90 (c:=(fb Tryz.f90)) (by kernel_rfl) (Lc:=0) trivial _ _ 4 _ _ _ _ _ _ [.pubB 6] (by rintro ⟨a0,a1,a2⟩;kernel_rfl)
noncomputable def zbmj:EnvT:=⟨Tryz.prog,zw [(128,zka),(139,zr4),(131,zqn)]⟩
theorem zbmk:(zbmj).Ok:=zd ⟨zmk,zya,zuf,trivial⟩
def zpq (a0:zb) (a1 a2 a3:Int): Tr (zb×Int) :=
 (.bind (zfz a0) fun v1 =>
 (.ite (((!v1)||(decide (a3 < 0)))||(decide (a3 > 1099511627776)))
  (.leaf (a0,2))
  (.ite (((!a0.On)||(decide (a1 < 0)))||(decide (a1≥6)))
   (.leaf (a0,4))
   (.ite ((decide (a2 < 1))||(decide (a2 > a0.Id)))
    (.leaf (a0,2))
    (.bind (zaq a0.Set a1) fun v2 =>
    (.bind (zca (⟨4,a2,a1,if v2 > 1 then v2 else 1,[],[]⟩:Packet) a3 a0) fun v3 =>
    (.ite (v3.1 != 0)
     (.leaf (v3.2,v3.1))
     (.leaf (v3.2,0)))))))))
def zej (a0:zb) (a1 a2 a3:Int):=(zpq a0 a1 a2 a3).run
def zyb:SpecT:=zn 0 (LQ.v (Par.ofLP zm) (LQ.v intP (LQ.v intP (Par.q intP)))) 4 [] (u4 zpq) default (LQ.v (Par.ofLP zm) (Par.q intP)) 2 []
theorem z7z:ze Tryz.prog 91 (zyb).spec :=
 sK (A:=⟨[],[],[],[[1,2,3,4,8],[1,2,3,4,8,11],[8,9],[1,2,3,4,8,24],[8,9],[1,2,3,4,8,37],[8,9],[4,8,10],[4,8,10,58],[8,9],[8,9]],[]⟩) zbmk fM Tryz.func91 (c:=(fb Tryz.f91)) (by kernel_rfl) (Lc:=0) trivial _ _ 4 _ _ _ _ _ _ [.pubB 8] (by rintro ⟨a0,a1,a2,a3⟩;kernel_rfl)
def zpr (a0:zb): Tr (zb) :=
 (.ite (!a0.On)
  (.leaf a0)
  (.leaf ({ a0 with On:=false,Gone:=true,Out:={ a0.Out with Closed:=true } })))
def zjw (a0:zb):=(zpr a0).run
def zyc:SpecT:=zn 0 (Par.q (Par.ofLP zm)) 1 [] zpr default (Par.q (Par.ofLP zm)) 1 []
theorem z70:ze Tryz.prog 138 (zyc).spec :=
 sK (A:=⟨[],[],[],[[1,2],[1,2,5],[2],[1,2],[2]],[]⟩) zhN fM Tryz.func138 (c:=(fb Tryz.f138)) (by kernel_rfl) (Lc:=0) trivial _ _ 4 _ _ _ _ _ _ [.pubB 2] (by rintro a0;kernel_rfl)
end
