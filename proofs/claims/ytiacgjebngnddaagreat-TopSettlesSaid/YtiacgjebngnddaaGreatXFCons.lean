/-
  The functions, each by its tree.
-/
import Derived.Test.YtiacgjebngnddaaGreatXAbC
import Derived.Test.YtiacgjebngnddaaGreatXFCodec
import Derived.Test.YtiacgjebngnddaaGreatXFLine
import Derived.Test.YtiacgjebngnddaaGreatXFRatio
import Derived.Test.YtiacgjebngnddaaGreatXFStakeB
import Derived.Test.YtiacgjebngnddaaGreatXFacts
namespace Go.Proofs.YtiacgjebngnddaaGreat.Ab
open Go Go.RowKit
open Go.IntKind (i64 u64)
set_option maxRecDepth 100000
set_option linter.unusedVariables false
set_option linter.unusedSimpArgs false
noncomputable section
noncomputable def zy89:EnvT:=⟨Tryz.prog,zah [(29,zlp)]⟩
theorem zh89:(zy89).Ok:=zf ⟨zm7,trivial⟩
def zkt (a0:Packet): Tr (Bool) :=
 (.bind (zfi a0) fun v1 =>
 (.leaf ((v1 != 0)||(a0.Kind != 1))))
def zpc (a0:Packet):=(zkt a0).run
def zqp:SpecT:=zw 0 (Par.q (Par.ofLP zkg)) 1 [] zkt default (Par.q boolP) 1 []
theorem zx0:zg Tryz.prog 116 (zqp).spec :=
 sK (A:=⟨[],[],[],[[1],[2]],[]⟩) zh89 fM Tryz.func116 (c:=(fb Tryz.f116)) (by kernel_rfl) (Lc:=0) trivial _ _ 3 _ _ _ _ _ _ [] (by rintro a0;kernel_rfl)
def zv90:List (List Nat):=[[0,1],[0,1,7,8],[0,1,7,8,9],[0,1,5,7,8],[0,1,5,7,8,16],[4],[0,1,7,8],[4]]
noncomputable def zy90:EnvT:=⟨Tryz.prog,zah [(116,zqp)]⟩
theorem zh90:(zy90).Ok:=zf ⟨zx0,trivial⟩
def zaj (x0:(List Packet)) (x1 x2:Int): Tr (((List Packet)×Int×Int)⊕((Int)⊕(Unit))) :=
 (.ite (decide (x2 < x1))
  (.guard ((0:Int)≤x2∧x2 < ((Sl.len (.packets x0):Nat):Int))
  (.bind (zpc (x0.getD x2.toNat default)) fun v1 =>
  (.ite (v1)
   (.leaf (.inr (.inl x2)))
   (.leaf (.inl (x0,x1,i64.wrap (x2+1)))))))
  (.leaf (.inr (.inr ()))))
def zd2 (x0:(List Packet)) (x1 x2:Int):=zdm (fun s:(List Packet)×Int×Int=>(zaj s.1 s.2.1 s.2.2).run) (x0,x1,x2)
def zaz2:Ann:=⟨[],[],[],zv90,[]⟩
def zaz3:=EndD.mk (LQ.v zdj (LQ.k (LQ.c (.fn 116 [])) (LQ.v intP (Par.q intP)))) ⟨[0,1,7,8],[.pub 0,.nilsl 0 (.packets [])]⟩ []
def zaqx:=EndD.mk (Par.q intP) ⟨[4],[]⟩ []
def zaqy:EndD (Unit):=⟨LQ.nil,⟨[],[]⟩,[]⟩
def zauo:St→Option LR:=L2 19 2 0 zaz3 .ret zaqx (.exit 0) zaqy (u3 zaj)
def zs90a:=sub (fb Tryz.f138) [0,1,0,1]
theorem zaz4:zt (zy90).env 0 zs90a zauo :=
 znl (A:=zaz2) zh90 fM trivial (k:=zcd zs90a) (by kernel_rfl) rfl rfl (by rintro ⟨x0,x1,x2⟩;kernel_rfl)
def zbk (a0:(List Packet)): Tr (Int) :=
 (.two (zd2 a0 ((a0.length:Nat):Int) 0) (fun v2 =>
  (.leaf v2)) (fun v3 =>
  (.leaf (-1))))
def zck (a0:(List Packet)):=(zbk a0).run
def zft:SpecT:=zw 0 (LQ.skipR (Par.q zdj) (LQ.c (.fn 116 []))) 2 [] zbk default (Par.q intP) 1 []
theorem zlr:zg Tryz.prog 138 (zft).spec :=
 sK (A:=⟨[([0,1,0,1],zauo)],[],[],zv90,[]⟩) zh90 fM Tryz.func138 (c:=(fb Tryz.f138)) (by kernel_rfl) (Lc:=0) ⟨zaz4,trivial⟩ _ _ 2 _ _ _ _ _ _ [] (by rintro a0;kernel_rfl)
noncomputable def zy91:EnvT:=⟨Tryz.prog,zah [(138,zft)]⟩
theorem zh91:(zy91).Ok:=zf ⟨zlr,trivial⟩
def zb6 (a0:(List Packet)): Tr (Bool) :=
 (.bind (zck a0) fun v1 =>
 (.leaf (decide (v1≥0))))
def zbv (a0:(List Packet)):=(zb6 a0).run
def zee:SpecT:=zw 0 (LQ.skipR (Par.q zdj) (LQ.c (.fn 116 []))) 2 [] zb6 default (Par.q boolP) 1 []
theorem zjy:zg Tryz.prog 115 (zee).spec :=
 sK (A:=⟨[],[],[],[[0,1],[4]],[]⟩) zh91 fM Tryz.func115 (c:=(fb Tryz.f115)) (by kernel_rfl) (Lc:=0) trivial _ _ 2 _ _ _ _ _ _ [] (by rintro a0;kernel_rfl)
def zv92:List (List Nat):=[[1],[1,48],[2],[1,50,51,52],[1,50,51,52,53],[1,3,4,50,51,52],[1,50,51,52,90],[2],[1,50,51,52],[1,93,94,95],[1,93,94,95,96],[1,6,93,94,95],[1,93,94,95,111],[2],[1,93,94,95],[2]]
noncomputable def zy92:EnvT:=⟨Tryz.prog,zah [(58,zko),(115,zee)]⟩
theorem zh92:(zy92).Ok:=zf ⟨zlo,zjy,trivial⟩
def zgb (x0:(List Power)) (x1 x2:Int) (x3:Consumer): Tr (((List Power)×Int×Int×Consumer)⊕((Bool)⊕(Consumer))) :=
 (.ite (decide (x2 < x1))
  (.guard ((0:Int)≤x2∧x2 < ((Sl.len (.powers x0):Nat):Int))
  (.guard (((decide (x2 > 0))=true→(((decide (((x0.getD x2.toNat default).V) < 0))||(decide (((x0.getD x2.toNat default).V)≥6)))=false→((0:Int)≤(i64.wrap (x2 - 1))∧(i64.wrap (x2 - 1)) < ((Sl.len (.powers x3.Set):Nat):Int))∧True)))
  (.ite (((((decide (((x0.getD x2.toNat default).V) < 0))||(decide (((x0.getD x2.toNat default).V)≥6)))||((decide (x2 > 0))&&(decide (((x3.Set.getD ((i64.wrap (x2 - 1)).toNat) default).V)≥((x0.getD x2.toNat default).V)))))||(decide (((x0.getD x2.toNat default).N) < 1)))||(decide (((x0.getD x2.toNat default).N) > 1125899906842624)))
   (.leaf (.inr (.inl false)))
   (.leaf (.inl (x0,x1,i64.wrap (x2+1),x3))))))
  (.leaf (.inr (.inr x3))))
def zn2 (x0:(List Power)) (x1 x2:Int) (x3:Consumer):=zdm (fun s:(List Power)×Int×Int×Consumer=>(zgb s.1 s.2.1 s.2.2.1 s.2.2.2).run) (x0,x1,x2,x3)
def zaz8:Ann:=⟨[],[],[],zv92,[]⟩
def zaz9:=EndD.mk (LQ.kp 0 0 (LQ.v zp (LQ.v intP (LQ.v intP (LP.q zab))))) ⟨[1,50,51,52],[.pub 50,.nilsl 50 (.powers [])]⟩ [.cells 64 22]
def zaqz:=EndD.mk (Par.q boolP) ⟨[2],[]⟩ []
def zaq0:=EndD.mk (LQ.kp 0 0 (LP.q zab)) ⟨[1],[]⟩ [.cells 64 22]
def zaup:St→Option LR:=L2 117 4 0 zaz9 .ret zaqz (.exit 0) zaq0 (u4 zgb)
def zs92a:=sub (fb Tryz.f74) [0,1,0,1,1]
theorem za0a:zt (zy92).env 0 zs92a zaup :=
 znl (A:=zaz8) zh92 fM trivial (k:=zcd zs92a) (by kernel_rfl) rfl rfl (by rintro ⟨x0,x1,x2,x3⟩;kernel_rfl)
def zcu (x0:(List Ripe)) (x1 x2:Int) (x3:Consumer): Tr (((List Ripe)×Int×Int×Consumer)⊕((Bool)⊕(Consumer))) :=
 (.ite (decide (x2 < x1))
  (.guard ((0:Int)≤x2∧x2 < ((Sl.len (.ripes x0):Nat):Int))
  (.ite (((decide (((x0.getD x2.toNat default).Id) < 1))||(decide (((x0.getD x2.toNat default).Id) > 1099511627776)))||(decide (((x0.getD x2.toNat default).Due) < 0)))
   (.leaf (.inr (.inl false)))
   (.leaf (.inl (x0,x1,i64.wrap (x2+1),x3)))))
  (.leaf (.inr (.inr x3))))
def ziw (x0:(List Ripe)) (x1 x2:Int) (x3:Consumer):=zdm (fun s:(List Ripe)×Int×Int×Consumer=>(zcu s.1 s.2.1 s.2.2.1 s.2.2.2).run) (x0,x1,x2,x3)
def za0b:Ann:=⟨[],[],[],zv92,[]⟩
def za0c:=EndD.mk (LQ.kp 0 0 (LQ.v zu6 (LQ.v intP (LQ.v intP (LP.q zab))))) ⟨[1,93,94,95],[.pub 93,.nilsl 93 (.ripes [])]⟩ [.cells 64 22]
def zaq1:=EndD.mk (Par.q boolP) ⟨[2],[]⟩ []
def zaq2:=EndD.mk (LQ.kp 0 0 (LP.q zab)) ⟨[1],[]⟩ [.cells 64 22]
def zauq:St→Option LR:=L2 117 4 0 za0c .ret zaq1 (.exit 2) zaq2 (u4 zcu)
def zs92b:=sub (fb Tryz.f74) [0,1,0,1,1,1]
theorem za0d:zt (zy92).env 0 zs92b zauq :=
 znl (A:=za0b) zh92 fM trivial (k:=zcd zs92b) (by kernel_rfl) rfl rfl (by rintro ⟨x0,x1,x2,x3⟩;kernel_rfl)
def zn3 (a0:Consumer): Tr (Bool) :=
 (.guard (((((((((a0.On&&a0.Gone)||(decide (a0.Height < 0)))||(decide (a0.Height≥1099511627776)))||(decide (a0.Time < 0)))||(decide (a0.Time > 1099511627776)))||(decide (a0.Id < 0)))||(decide (a0.Id > 1099511627776)))=false→((zdz a0.Out).isSome=true)∧True))
 (.ite ((((((((a0.On&&a0.Gone)||(decide (a0.Height < 0)))||(decide (a0.Height≥1099511627776)))||(decide (a0.Time < 0)))||(decide (a0.Time > 1099511627776)))||(decide (a0.Id < 0)))||(decide (a0.Id > 1099511627776)))||(!((zdz a0.Out).getD default)))
  (.leaf false)
  (.two (zn2 a0.Set ((a0.Set.length:Nat):Int) 0 a0) (fun v1 =>
   (.leaf v1)) (fun v2 =>
   (.two (ziw v2.Ripes ((v2.Ripes.length:Nat):Int) 0 v2) (fun v3 =>
    (.leaf v3)) (fun v4 =>
    (.bind (zbv v4.Pending) fun v5 =>
    (.leaf (!v5)))))))))
def zdx (a0:Consumer):=(zn3 a0).run
def zgn:SpecT:=zw 0 (Par.q (Par.ofLP zab)) 1 [] zn3 default (Par.q boolP) 1 []
theorem zij:zg Tryz.prog 74 (zgn).spec :=
 sK (A:=⟨[([0,1,0,1,1],zaup),([0,1,0,1,1,1],zauq)],[],[],zv92,[]⟩) zh92 fM Tryz.func74 (c:=(fb Tryz.f74)) (by kernel_rfl) (Lc:=0) ⟨za0a,za0d,trivial⟩ _ _ 4 _ _ _ _ _ _ [] (by rintro a0;kernel_rfl)
noncomputable def zy93:EnvT:=⟨Tryz.prog,zah [(73,zjb)]⟩
theorem zh93:(zy93).Ok:=zf ⟨zpr,trivial⟩
def zl9 (a0:(List Power)) (a1 a2:Int): Tr (Consumer) :=
 (.bind (zd6 a0) fun v1 =>
 (.leaf (⟨true,false,0,a2,a1,v1,[],[],(⟨false,false,false,false,false,false⟩:(A6 Bool)),(⟨[],[],0,false⟩:zi6),(⟨0,0,0,0⟩:Head)⟩:Consumer)))
def zg5 (a0:(List Power)) (a1 a2:Int):=(zl9 a0 a1 a2).run
def zsk:SpecT:=zw 0 (LQ.v zp (LQ.v intP (Par.q intP))) 3 [] (u3 zl9) default (Par.q (Par.ofLP zab)) 1 []
theorem zy0:zg Tryz.prog 48 (zsk).spec :=
 sK (A:=⟨[],[],[],[[0,1,2,6],[6]],[]⟩) zh93 fM Tryz.func48 (c:=(fb Tryz.f48)) (by kernel_rfl) (Lc:=0) trivial _ _ 4 _ _ _ _ _ _ [.pubB 6] (by rintro ⟨a0,a1,a2⟩;kernel_rfl)
noncomputable def zy94:EnvT:=⟨Tryz.prog,zah [(14,zpw),(74,zgn),(119,zh0)]⟩
theorem zh94:(zy94).Ok:=zf ⟨ztg,zij,zou,trivial⟩
def zn4 (a0:Consumer) (a1:ByteArray): Tr (Consumer×Int) :=
 (.bind (zet a1) fun v1 =>
 (.bind (zdx a0) fun v2 =>
 (.ite (!v2)
  (.leaf (a0,2))
  (.ite (!a0.On)
   (.leaf (a0,4))
   (.ite (v1.2 != 0)
    (.leaf (a0,v1.2))
    (.ite (v1.1.Kind != 1)
     (.leaf (a0,3))
     (.guard ((zbb a0.Pending).isSome=true)
     (.guard ((Sl.len (.packets ((zbb a0.Pending).getD default))+Sl.len (.packets [v1.1]))*80≤140737488355328)
     (.leaf ({ a0 with Pending:=((zbb a0.Pending).getD default)++[v1.1] },0))))))))))
def zik (a0:Consumer) (a1:ByteArray):=(zn4 a0 a1).run
def ztq:SpecT:=zw 0 (LQ.v (Par.ofLP zab) (Par.q strP)) 2 [] (u2 zn4) default (LQ.v (Par.ofLP zab) (Par.q intP)) 2 []
theorem z0g:zg Tryz.prog 81 (ztq).spec :=
 sK (A:=⟨[],[],[],[[1,2,4],[2,4,6,7],[2,4,6,7,13],[4,5],[2,4,6,7,18],[4,5],[2,4,6,7,23],[4,5],[2,4,6,28],[4,5],[2,4],[4,5]],[]⟩) zh94 fM Tryz.func81 (c:=(fb Tryz.f81)) (by kernel_rfl) (Lc:=0) trivial _ _ 8 _ _ _ _ _ _ [.pubB 4] (by rintro ⟨a0,a1⟩;kernel_rfl)
noncomputable def zy95:EnvT:=⟨Tryz.prog,zah [(113,zld),(114,zyy)]⟩
theorem zh95:(zy95).Ok:=zf ⟨znv,z1y,trivial⟩
def zpz (a0:Packet) (a1:Int) (a2:Consumer): Tr (Int×Consumer) :=
 (.bind (zbf a0) fun v1 =>
 (.ite (v1.2 != 0)
  (.leaf (v1.2,a2))
  (.bind (zrt a2.Out v1.1 (i64.wrap (a1+40))) fun v2 =>
  (.ite (v2.2 != 0)
   (.leaf (v2.2,a2))
   (.leaf (0,{ a2 with Out:=v2.1 }))))))
def zbg (a0:Packet) (a1:Int) (a2:Consumer):=(zpz a0 a1 a2).run
def zle:SpecT:=zw 1 (LQ.kp 0 0 (LQ.v (Par.ofLP zkg) (LQ.v intP (LP.q zab)))) 3 [.cells 64 22] (u3 zpz) default (LQ.v intP (LP.q zab)) 1 [.cells 64 22]
theorem zn5:zg Tryz.prog 77 (zle).spec :=
 sK (A:=⟨[],[],[],[[0,2,4],[0,2,7,8],[0,2,7,8,16],[6],[0,8,9],[0,8,9,30],[6],[],[6]],[]⟩) zh95 fM Tryz.func77 (c:=(fb Tryz.f77)) (by kernel_rfl) (Lc:=1) trivial _ _ 5 _ _ _ _ _ _ [.pubN 0] (by rintro ⟨a0,a1,a2⟩;kernel_rfl)
def zv96:List (List Nat):=[[0,1],[1,7,8,9],[1,7,8,9,10],[1,6,7,8,9],[1,6,7,8,9,16],[4],[1,7,8,9],[4]]
def zdc (x0:Int) (x1:(List Power)) (x2 x3:Int): Tr ((Int×(List Power)×Int×Int)⊕((Int)⊕(Unit))) :=
 (.ite (decide (x3 < x2))
  (.guard ((0:Int)≤x3∧x3 < ((Sl.len (.powers x1):Nat):Int))
  (.ite (((x1.getD x3.toNat default).V)==x0)
   (.leaf (.inr (.inl ((x1.getD x3.toNat default).N))))
   (.leaf (.inl (x0,x1,x2,i64.wrap (x3+1))))))
  (.leaf (.inr (.inr ()))))
def zmn (x0:Int) (x1:(List Power)) (x2 x3:Int):=zdm (fun s:Int×(List Power)×Int×Int=>(zdc s.1 s.2.1 s.2.2.1 s.2.2.2).run) (x0,x1,x2,x3)
def za0e:Ann:=⟨[],[],[],zv96,[]⟩
def za0f:=EndD.mk (LQ.v intP (LQ.v zp (LQ.v intP (Par.q intP)))) ⟨[1,7,8,9],[.pub 7,.nilsl 7 (.powers [])]⟩ []
def zaq3:=EndD.mk (Par.q intP) ⟨[4],[]⟩ []
def zaq4:EndD (Unit):=⟨LQ.nil,⟨[],[]⟩,[]⟩
def zaur:St→Option LR:=L2 20 3 0 za0f .ret zaq3 (.exit 0) zaq4 (u4 zdc)
def zs96a:=sub (fb Tryz.f85) [0,1,0,1]
theorem za0g:zt (zyN).env 0 zs96a zaur :=
 znl (A:=za0e) zhN fM trivial (k:=zcd zs96a) (by kernel_rfl) rfl rfl (by rintro ⟨x0,x1,x2,x3⟩;kernel_rfl)
def zma (a0:(List Power)) (a1:Int): Tr (Int) :=
 (.two (zmn a1 a0 ((a0.length:Nat):Int) 0) (fun v1 =>
  (.leaf v1)) (fun v2 =>
  (.leaf 0)))
def zad (a0:(List Power)) (a1:Int):=(zma a0 a1).run
def zmb:SpecT:=zw 0 (LQ.v zp (Par.q intP)) 2 [] (u2 zma) default (Par.q intP) 1 []
theorem zqq:zg Tryz.prog 85 (zmb).spec :=
 sK (A:=⟨[([0,1,0,1],zaur)],[],[],zv96,[]⟩) zhN fM Tryz.func85 (c:=(fb Tryz.f85)) (by kernel_rfl) (Lc:=0) ⟨za0g,trivial⟩ _ _ 3 _ _ _ _ _ _ [] (by rintro ⟨a0,a1⟩;kernel_rfl)
def zv97:List (List Nat):=[[1,2,4],[1,2,4,10],[4,5],[1,2,4,15],[4,5],[1,2,4,20],[4,5],[1,2,4],[1,2,4],[1,2,4,41,42,43],[1,2,4,41,42,43,44],[1,2,4,7,41,42,43],[1,2,4,7,41,42,43],[1,2,4,7,41,42,43],[1,2,4,7,41,42,43,57,58,59],[1,2,4,7,41,42,43,57,58,59,60],[1,2,4,7,9,41,42,43,57,58,59],[1,2,4,7,41,42,43,57,58,59],[1,2,4,7,41,42,43,57,58,59],[1,2,4,41,42,43],[1,2,4,41,42,43],[1,2,4],[1,2,4,91],[1,2,4,100],[1,2,4],[4,5]]
noncomputable def zy97:EnvT:=⟨Tryz.prog,zah [(74,zgn),(75,zjp),(76,zxz),(77,zle)]⟩
theorem zh97:(zy97).Ok:=zf ⟨zij,zqo,z37,zn5,trivial⟩
def zew (x0:Int) (x1:(List Packet)) (x2 x3:Int) (x4:(List Int)) (x5 x6:Int) (x7 x8:Consumer) (x9:Packet): Tr ((Int×(List Packet)×Int×Int×(List Int)×Int×Int×Consumer×Consumer×Packet)⊕(Int×(List Packet)×Int×Int×Consumer×Consumer×Packet)) :=
 (.ite (decide (x6 < x5))
  (.guard ((0:Int)≤x6∧x6 < ((Sl.len (.ints x4):Nat):Int))
  (.guard ((0:Int)≤(x4.getD x6.toNat 0)∧((x4.getD x6.toNat 0):Int) < 6)
  (.leaf (.inl (x0,x1,x2,x3,x4,x5,i64.wrap (x6+1),{ x7 with Flags:=(x7.Flags.set (x4.getD x6.toNat 0) false) },x8,x9)))))
  (.leaf (.inr (x0,x1,x2,x3,x7,x8,x9))))
def zjz (x0:Int) (x1:(List Packet)) (x2 x3:Int) (x4:(List Int)) (x5 x6:Int) (x7 x8:Consumer) (x9:Packet):=zdm (fun s:Int×(List Packet)×Int×Int×(List Int)×Int×Int×Consumer×Consumer×Packet=>(zew s.1 s.2.1 s.2.2.1 s.2.2.2.1 s.2.2.2.2.1 s.2.2.2.2.2.1 s.2.2.2.2.2.2.1 s.2.2.2.2.2.2.2.1 s.2.2.2.2.2.2.2.2.1 s.2.2.2.2.2.2.2.2.2).run) (x0,x1,x2,x3,x4,x5,x6,x7,x8,x9)
def za0h:Ann:=⟨[],[],[],zv97,[(23,[800002])]⟩
def za0i:=EndD.mk (LQ.map (LQ.v intP (LQ.kp 0 0 (LQ.kp 1 0 (LQ.kp 2 0 (LQ.v zdj (LQ.v intP (LQ.v intP (LQ.v zgh (LQ.v intP (LQ.v intP (LQ.v boolP (LQ.v boolP (LQ.v intP (LQ.v intP (LQ.v intP (LQ.v zp (LQ.v zdj (LQ.k (LQ.c (.own 3)) (LQ.seq (LP.q (a6L (LP.one boolP))) (LQ.seq (LP.q lineL) (LQ.seq (LP.q z5w) (LQ.seq (LP.q zab) (LQ.seq (LP.q zkg) (Par.q zu6)))))))))))))))))))))))) (fun x=>(x.1,x.2.1,x.2.2.1,x.2.2.2.1,(d4 x).1,(d4 x).2.1,(d4 x).2.2.1,(⟨(d4 x).2.2.2.1,(d8 x).1,(d8 x).2.1,(d8 x).2.2.1,(d8 x).2.2.2.1,(d12 x).1,(d12 x).2.1,(d16 x).2.2.2,(d12 x).2.2.1,(d12 x).2.2.2.1,(d16 x).1⟩:Consumer),(d16 x).2.1,(d16 x).2.2.1)) (fun y=>(y.1,y.2.1,y.2.2.1,y.2.2.2.1,(d4 y).1,(d4 y).2.1,(d4 y).2.2.1,(d4 y).2.2.2.1.On,(d4 y).2.2.2.1.Gone,(d4 y).2.2.2.1.Height,(d4 y).2.2.2.1.Time,(d4 y).2.2.2.1.Id,(d4 y).2.2.2.1.Set,(d4 y).2.2.2.1.Pending,(d4 y).2.2.2.1.Flags,(d4 y).2.2.2.1.Out,(d4 y).2.2.2.1.Seen,(d8 y).1,(d8 y).2,(d4 y).2.2.2.1.Ripes)) (fun _=>rfl)) ⟨[1,2,4,7,41,42,43,57,58,59],[.nilcell 2 7 93 (.ripes []),.pub 41,.nilsl 41 (.packets []),.pub 57,.nilsl 57 (.ints [])]⟩ [.cells 64 22,.cells 64 22,.cells 73 6,.rows 93]
def zaq5:=EndD.mk (LQ.map (LQ.v intP (LQ.kp 0 0 (LQ.kp 1 0 (LQ.kp 2 0 (LQ.v zdj (LQ.v intP (LQ.v intP (LQ.v boolP (LQ.v boolP (LQ.v intP (LQ.v intP (LQ.v intP (LQ.v zp (LQ.v zdj (LQ.k (LQ.c (.own 3)) (LQ.seq (LP.q (a6L (LP.one boolP))) (LQ.seq (LP.q lineL) (LQ.seq (LP.q z5w) (LQ.seq (LP.q zab) (LQ.seq (LP.q zkg) (Par.q zu6))))))))))))))))))))) (fun x=>(x.1,x.2.1,x.2.2.1,x.2.2.2.1,(⟨(d4 x).1,(d4 x).2.1,(d4 x).2.2.1,(d4 x).2.2.2.1,(d8 x).1,(d8 x).2.1,(d8 x).2.2.1,(d16 x),(d8 x).2.2.2.1,(d12 x).1,(d12 x).2.1⟩:Consumer),(d12 x).2.2.1,(d12 x).2.2.2.1)) (fun y=>(y.1,y.2.1,y.2.2.1,y.2.2.2.1,(d4 y).1.On,(d4 y).1.Gone,(d4 y).1.Height,(d4 y).1.Time,(d4 y).1.Id,(d4 y).1.Set,(d4 y).1.Pending,(d4 y).1.Flags,(d4 y).1.Out,(d4 y).1.Seen,(d4 y).2.1,(d4 y).2.2,(d4 y).1.Ripes)) (fun _=>rfl)) ⟨[1,2,4,7,41,42,43],[.nilcell 2 7 93 (.ripes []),.pub 41,.nilsl 41 (.packets [])]⟩ [.cells 64 22,.cells 64 22,.cells 73 6,.rows 93]
def zaus:St→Option LR:=L1 106 8 0 za0i (.exit 3) zaq5 (u10 zew)
def zs97a:=sub (fb Tryz.f49) [0,1,0,1,1,1,0,0,1,1,0,0,1,0,1,1,1,1]
theorem za0j:zt (zy97).env 0 zs97a zaus :=
 zht (A:=za0h) zh97 fM trivial (k:=zcd zs97a) (by kernel_rfl) rfl (by rintro ⟨x0,x1,x2,x3,x4,x5,x6,x7,x8,x9⟩;kernel_rfl)
def zex (x0:Int) (x1:(List Packet)) (x2 x3:Int) (x4 x5:Consumer): Tr ((Int×(List Packet)×Int×Int×Consumer×Consumer)⊕(Int×Consumer×Consumer)) :=
 (.ite (decide (x3 < x2))
  (.guard ((0:Int)≤x3∧x3 < ((Sl.len (.packets x1):Nat):Int))
  (.bind (zpy x4.Set ((x1.getD x3.toNat default).Set)) fun v3 =>
  (.bind (zjz x0 x1 x2 x3 ((x1.getD x3.toNat default).Done) ((((x1.getD x3.toNat default).Done).length:Nat):Int) 0 ({ x4 with Id:=(x1.getD x3.toNat default).Id,Set:=v3 }) x5 (x1.getD x3.toNat default)) fun v4 =>
  (.guard ((Sl.len (.ripes v4.2.2.2.2.1.Ripes)+Sl.len (.ripes [(⟨v4.2.2.2.2.2.2.Id,i64.wrap (v4.1+15)⟩:Ripe)]))*16≤140737488355328)
  (.leaf (.inl (v4.1,v4.2.1,v4.2.2.1,i64.wrap (v4.2.2.2.1+1),{ v4.2.2.2.2.1 with Ripes:=v4.2.2.2.2.1.Ripes++[(⟨v4.2.2.2.2.2.2.Id,i64.wrap (v4.1+15)⟩:Ripe)] },v4.2.2.2.2.2.1)))))))
  (.leaf (.inr (x0,x4,x5))))
def zj0 (x0:Int) (x1:(List Packet)) (x2 x3:Int) (x4 x5:Consumer):=zdm (fun s:Int×(List Packet)×Int×Int×Consumer×Consumer=>(zex s.1 s.2.1 s.2.2.1 s.2.2.2.1 s.2.2.2.2.1 s.2.2.2.2.2).run) (x0,x1,x2,x3,x4,x5)
def za0k:Ann:=⟨[([0,1,0,1,1,1,0,0,1,1,0,0,1,0,1,1,1,1],zaus)],[],[],zv97,[(23,[800002])]⟩
def za0l:=EndD.mk (LQ.map (LQ.v intP (LQ.kp 0 0 (LQ.kp 1 0 (LQ.v zdj (LQ.v intP (LQ.v intP (LQ.v boolP (LQ.v boolP (LQ.v intP (LQ.v intP (LQ.v intP (LQ.v zp (LQ.v zdj (LQ.k (LQ.c (.own 2)) (LQ.seq (LP.q (a6L (LP.one boolP))) (LQ.seq (LP.q lineL) (LQ.seq (LP.q z5w) (LQ.seq (LP.q zab) (Par.q zu6))))))))))))))))))) (fun x=>(x.1,x.2.1,x.2.2.1,x.2.2.2.1,(⟨(d4 x).1,(d4 x).2.1,(d4 x).2.2.1,(d4 x).2.2.2.1,(d8 x).1,(d8 x).2.1,(d8 x).2.2.1,(d12 x).2.2.2,(d8 x).2.2.2.1,(d12 x).1,(d12 x).2.1⟩:Consumer),(d12 x).2.2.1)) (fun y=>(y.1,y.2.1,y.2.2.1,y.2.2.2.1,(d4 y).1.On,(d4 y).1.Gone,(d4 y).1.Height,(d4 y).1.Time,(d4 y).1.Id,(d4 y).1.Set,(d4 y).1.Pending,(d4 y).1.Flags,(d4 y).1.Out,(d4 y).1.Seen,(d4 y).2,(d4 y).1.Ripes)) (fun _=>rfl)) ⟨[1,2,4,41,42,43],[.nilcell 2 7 93 (.ripes []),.pub 41,.nilsl 41 (.packets [])]⟩ [.cells 64 22,.cells 64 22,.rows 93]
def zaq6:=EndD.mk (LQ.map (LQ.v intP (LQ.kp 0 0 (LQ.kp 1 0 (LQ.v boolP (LQ.v boolP (LQ.v intP (LQ.v intP (LQ.v intP (LQ.v zp (LQ.v zdj (LQ.k (LQ.c (.own 2)) (LQ.seq (LP.q (a6L (LP.one boolP))) (LQ.seq (LP.q lineL) (LQ.seq (LP.q z5w) (LQ.seq (LP.q zab) (Par.q zu6)))))))))))))))) (fun x=>(x.1,(⟨x.2.1,x.2.2.1,x.2.2.2.1,(d4 x).1,(d4 x).2.1,(d4 x).2.2.1,(d4 x).2.2.2.1,(d12 x),(d8 x).1,(d8 x).2.1,(d8 x).2.2.1⟩:Consumer),(d8 x).2.2.2.1)) (fun y=>(y.1,y.2.1.On,y.2.1.Gone,y.2.1.Height,y.2.1.Time,y.2.1.Id,y.2.1.Set,y.2.1.Pending,y.2.1.Flags,y.2.1.Out,y.2.1.Seen,y.2.2,y.2.1.Ripes)) (fun _=>rfl)) ⟨[1,2,4],[.nilcell 2 7 93 (.ripes [])]⟩ [.cells 64 22,.cells 64 22,.rows 93]
def zaut:St→Option LR:=L1 106 8 0 za0l (.exit 1) zaq6 (u6 zex)
def zs97b:=sub (fb Tryz.f49) [0,1,0,1,1,1,1]
theorem za0m:zt (zy97).env 0 zs97b zaut :=
 zht (A:=za0k) zh97 fM ⟨za0j,trivial⟩ (k:=zcd zs97b) (by kernel_rfl) rfl (by rintro ⟨x0,x1,x2,x3,x4,x5⟩;kernel_rfl)
def zc9 (x0:Int) (x1 x2:Consumer): Tr ((Int×Consumer×Consumer)⊕(Consumer×Consumer)) :=
 (.guard (((decide (((x1.Ripes.length:Nat):Int) > 0))=true→((0:Int)≤0∧0 < ((Sl.len (.ripes x1.Ripes):Nat):Int))∧True))
 (.ite ((decide (((x1.Ripes.length:Nat):Int) > 0))&&(decide (((x1.Ripes.getD 0 default).Due)≤x0)))
  (.guard ((0:Int)≤0∧0 < ((Sl.len (.ripes x1.Ripes):Nat):Int))
  (.bind (zbg (⟨2,(x1.Ripes.getD 0 default).Id,0,0,[],[]⟩:Packet) x0 x1) fun v6 =>
  (.ite (v6.1 != 0)
   (.leaf (.inr (v6.2,x2)))
   (.guard ((0:Int)≤1∧1≤(((Sl.len (.ripes v6.2.Ripes):Nat):Int):Int)∧((Sl.len (.ripes v6.2.Ripes):Nat):Int)≤((Sl.len (.ripes v6.2.Ripes):Nat):Int))
   (.leaf (.inl (x0,{ v6.2 with Ripes:=((v6.2.Ripes.drop 1).take ((((Sl.len (.ripes v6.2.Ripes):Nat):Int)).toNat - 1)) },x2)))))))
  (.leaf (.inr (x1,x2)))))
def zbw (x0:Int) (x1 x2:Consumer):=zdm (fun s:Int×Consumer×Consumer=>(zc9 s.1 s.2.1 s.2.2).run) (x0,x1,x2)
def za0n:Ann:=⟨[],[],[],zv97,[(23,[800002])]⟩
def za0o:=EndD.mk (LQ.v intP (LQ.kp 0 0 (LQ.kp 1 0 (LQ.seq (LP.q zab) (LP.q zab))))) ⟨[1,2,4],[.pubC 2 6,.pubC 2 7]⟩ [.cells 64 22,.cells 64 22]
def zaq7:=EndD.mk (LQ.kp 0 0 (LQ.kp 1 0 (LQ.seq (LP.q zab) (LP.q zab)))) ⟨[2,4],[.pubC 2 6,.pubC 2 7]⟩ [.cells 64 22,.cells 64 22]
def zauu:St→Option LR:=L1 106 8 0 za0o (.exit 5) zaq7 (u3 zc9)
def zs97c:=sub (fb Tryz.f49) [0,0,1,1,1,1,1,1]
theorem za0p:zt (zy97).env 0 zs97c zauu :=
 zht (A:=za0n) zh97 fM trivial (k:=zcd zs97c) (by kernel_rfl) rfl (by rintro ⟨x0,x1,x2⟩;kernel_rfl)
def zp0 (a0:Consumer) (a1:Int): Tr (Consumer×Int) :=
 (.bind (zdx a0) fun v1 =>
 (.ite (!v1)
  (.leaf (a0,2))
  (.ite (!a0.On)
   (.leaf (a0,4))
   (.ite ((decide (a1 < a0.Time))||(decide (a1 > 1099511627776)))
    (.leaf (a0,2))
    (.bind (zep a0.Ripes) fun v2 =>
    (.bind (zj0 a1 a0.Pending ((a0.Pending.length:Nat):Int) 0 ({ a0 with Height:=i64.wrap (a0.Height+1),Time:=a1,Ripes:=v2 }) (default:Consumer)) fun v5 =>
    (.bind (zbw v5.1 ({ v5.2.1 with Pending:=[] }) v5.2.2) fun v7 =>
    (.leaf (v7.1,0)))))))))
def zz (a0:Consumer) (a1:Int):=(zp0 a0 a1).run
def zvg:SpecT:=zw 0 (LQ.v (Par.ofLP zab) (Par.q intP)) 2 [] (u2 zp0) default (LQ.v (Par.ofLP zab) (Par.q intP)) 2 []
theorem z17:zg Tryz.prog 49 (zvg).spec :=
 sK (A:=⟨[([0,1,0,1,1,1,1],zaut),([0,0,1,1,1,1,1,1],zauu)],[],[],zv97,[(23,[800002])]⟩) zh97 fM Tryz.func49 (c:=(fb Tryz.f49)) (by kernel_rfl) (Lc:=0) ⟨za0m,za0p,trivial⟩ _ _ 8 _ _ _ _ _ _ [.pubB 4] (by rintro ⟨a0,a1⟩;kernel_rfl)
noncomputable def zy98:EnvT:=⟨Tryz.prog,zah [(74,zgn),(85,zmb),(77,zle)]⟩
theorem zh98:(zy98).Ok:=zf ⟨zij,zqq,zn5,trivial⟩
def zn6 (a0:Consumer) (a1 a2:Int): Tr (Consumer×Int) :=
 (.bind (zdx a0) fun v1 =>
 (.ite (((!v1)||(decide (a2 < 0)))||(decide (a2 > 1099511627776)))
  (.leaf (a0,2))
  (.guard (((((!a0.On)||(decide (a1 < 0)))||(decide (a1≥6)))=false→((zad a0.Set a1).isSome=true)∧True))
  (.ite ((((!a0.On)||(decide (a1 < 0)))||(decide (a1≥6)))||(((zad a0.Set a1).getD default)==0))
   (.leaf (a0,4))
   (.guard ((0:Int)≤a1∧(a1:Int) < 6)
   (.ite (a0.Flags.get a1)
    (.leaf (a0,5))
    (.guard ((zad a0.Set a1).isSome=true)
    (.guard ((zbg (⟨3,a0.Id,a1,((zad a0.Set a1).getD default),[],[]⟩:Packet) a2 a0).isSome=true)
    (.ite ((((zbg (⟨3,a0.Id,a1,((zad a0.Set a1).getD default),[],[]⟩:Packet) a2 a0).getD default).1) != 0)
     (.leaf ((((zbg (⟨3,a0.Id,a1,((zad a0.Set a1).getD default),[],[]⟩:Packet) a2 a0).getD default).2),((zbg (⟨3,a0.Id,a1,((zad a0.Set a1).getD default),[],[]⟩:Packet) a2 a0).getD default).1))
     (.guard ((0:Int)≤a1∧(a1:Int) < 6)
     (.leaf ({ ((((zbg (⟨3,a0.Id,a1,((zad a0.Set a1).getD default),[],[]⟩:Packet) a2 a0).getD default).2):Consumer) with Flags:=(((((zbg (⟨3,a0.Id,a1,((zad a0.Set a1).getD default),[],[]⟩:Packet) a2 a0).getD default).2).Flags).set a1 true) },0))))))))))))
def zdy (a0:Consumer) (a1 a2:Int):=(zn6 a0 a1 a2).run
def ztr:SpecT:=zw 0 (LQ.v (Par.ofLP zab) (LQ.v intP (Par.q intP))) 3 [] (u3 zn6) default (LQ.v (Par.ofLP zab) (Par.q intP)) 2 []
theorem z0h:zg Tryz.prog 52 (ztr).spec :=
 sK (A:=⟨[],[],[],[[1,2,3,6],[1,2,3,6,9],[6,7],[1,2,3,6,22],[6,7],[1,2,3,6,42],[6,7],[1,3,6,8],[1,3,6,8,59],[6,7],[3,6],[6,7]],[]⟩) zh98 fM Tryz.func52 (c:=(fb Tryz.f52)) (by kernel_rfl) (Lc:=0) trivial _ _ 4 _ _ _ _ _ _ [.pubB 6] (by rintro ⟨a0,a1,a2⟩;kernel_rfl)
noncomputable def zy99:EnvT:=⟨Tryz.prog,zah [(74,zgn),(85,zmb),(77,zle)]⟩
theorem zh99:(zy99).Ok:=zf ⟨zij,zqq,zn5,trivial⟩
def zku (a0:Consumer) (a1 a2 a3:Int): Tr (Consumer×Int) :=
 (.bind (zdx a0) fun v1 =>
 (.ite (((!v1)||(decide (a3 < 0)))||(decide (a3 > 1099511627776)))
  (.leaf (a0,2))
  (.ite (((!a0.On)||(decide (a1 < 0)))||(decide (a1≥6)))
   (.leaf (a0,4))
   (.ite ((decide (a2 < 1))||(decide (a2 > a0.Id)))
    (.leaf (a0,2))
    (.bind (zad a0.Set a1) fun v2 =>
    (.bind (zbg (⟨4,a2,a1,if v2 > 1 then v2 else 1,[],[]⟩:Packet) a3 a0) fun v3 =>
    (.ite (v3.1 != 0)
     (.leaf (v3.2,v3.1))
     (.leaf (v3.2,0)))))))))
def zcv (a0:Consumer) (a1 a2 a3:Int):=(zku a0 a1 a2 a3).run
def zqr:SpecT:=zw 0 (LQ.v (Par.ofLP zab) (LQ.v intP (LQ.v intP (Par.q intP)))) 4 [] (u4 zku) default (LQ.v (Par.ofLP zab) (Par.q intP)) 2 []
theorem zx1:zg Tryz.prog 53 (zqr).spec :=
 sK (A:=⟨[],[],[],[[1,2,3,4,8],[1,2,3,4,8,11],[8,9],[1,2,3,4,8,24],[8,9],[1,2,3,4,8,37],[8,9],[4,8,10],[4,8,10,58],[8,9],[8,9]],[]⟩) zh99 fM Tryz.func53 (c:=(fb Tryz.f53)) (by kernel_rfl) (Lc:=0) trivial _ _ 4 _ _ _ _ _ _ [.pubB 8] (by rintro ⟨a0,a1,a2,a3⟩;kernel_rfl)
def zkv (a0:Consumer): Tr (Consumer) :=
 (.ite (!a0.On)
  (.leaf a0)
  (.leaf ({ a0 with On:=false,Gone:=true,Out:={ a0.Out with Closed:=true } })))
def zgc (a0:Consumer):=(zkv a0).run
def zqs:SpecT:=zw 0 (Par.q (Par.ofLP zab)) 1 [] zkv default (Par.q (Par.ofLP zab)) 1 []
theorem zx2:zg Tryz.prog 84 (zqs).spec :=
 sK (A:=⟨[],[],[],[[1,2],[1,2,5],[2],[1,2],[2]],[]⟩) zhN fM Tryz.func84 (c:=(fb Tryz.f84)) (by kernel_rfl) (Lc:=0) trivial _ _ 4 _ _ _ _ _ _ [.pubB 2] (by rintro a0;kernel_rfl)
end
