/-
  The functions, each by its tree.
-/
import Derived.Test.YtiacgjebngnddaaGreatXAbC
import Derived.Test.YtiacgjebngnddaaGreatXFBank
import Derived.Test.YtiacgjebngnddaaGreatXFCodec
import Derived.Test.YtiacgjebngnddaaGreatXFCons
import Derived.Test.YtiacgjebngnddaaGreatXFLine
import Derived.Test.YtiacgjebngnddaaGreatXFProv
import Derived.Test.YtiacgjebngnddaaGreatXFRatio
import Derived.Test.YtiacgjebngnddaaGreatXFStakeA
import Derived.Test.YtiacgjebngnddaaGreatXFStakeB
import Derived.Test.YtiacgjebngnddaaGreatXFWld
import Derived.Test.YtiacgjebngnddaaGreatXFacts
namespace Go.Proofs.YtiacgjebngnddaaGreat.Ab
open Go Go.RowKit
open Go.IntKind (i64 u64)
set_option maxRecDepth 100000
set_option linter.unusedVariables false
set_option linter.unusedSimpArgs false
noncomputable section
noncomputable def za2h:EnvT:=⟨Tryz.prog,zah [(19,zwo),(17,zfx),(38,zoh),(11,zdl)]⟩
theorem za2i:(za2h).Ok:=zf ⟨zz1,zg7,zu1,zfk,trivial⟩
def zwp  : Tr (Bool) :=
 (.bind (zpf) fun v1 =>
 (.bind (ze (⟨1,0,0,0,700,false,false⟩:Deed) v1) fun v2 =>
 (.bind (ze (⟨5,0,0,0,5,false,false⟩:Deed) v2.2) fun v3 =>
 (.bind (ze (⟨6,0,0,0,0,false,false⟩:Deed) v3.2) fun v4 =>
 (.bind (ze (⟨4,0,0,0,0,false,false⟩:Deed) v4.2) fun v5 =>
 (.ite ((((v2.1.Code==0)&&(v3.1.N==5))&&(v4.1.Code==0))&&(v5.1.N==1))
  (.bind (zhn v5.2) fun v6 =>
  (.ite ((true:Bool)&&(v6.1==5))
   (.bind (zn 0 v6.2) fun v7 =>
   (.leaf ((true:Bool)&&(((v7.1.Set.length:Nat):Int)==1))))
   (.ite ((false:Bool))
    .fail
    (.ite ((false:Bool))
     .fail
     (.ite ((false:Bool))
      .fail
      (.ite ((false:Bool))
       .fail
       (.leaf (false:Bool))))))))
  (.ite ((false:Bool))
   .fail
   (.ite ((false:Bool))
    .fail
    (.ite ((false:Bool))
     (.bind (zn 0 v5.2) fun v6 =>
     (.leaf ((true:Bool)&&(((v6.1.Set.length:Nat):Int)==1))))
     (.ite ((false:Bool))
      .fail
      (.ite ((false:Bool))
       .fail
       (.ite ((false:Bool))
        .fail
        (.ite ((false:Bool))
         .fail
         (.leaf (false:Bool)))))))))))))))
def ztz  := (zwp ).run
def z82:=(Par.q boolP)
def z2c:SpecT:=zw 0 LQ.nil 0 [] (fun s=>zwp ) default z82 1 []
theorem z83:zg Tryz.prog 23 (z2c).spec :=
 sK (A:=⟨[],[],[[1,0,1,1]],[[],[1],[1,8],[0],[1,2],[1,2,3],[1,2,3,4],[1,2,3,4,5],[0]],[]⟩) za2i fM Tryz.func23 (c:=(fb Tryz.f23)) (by kernel_rfl) (Lc:=0) trivial _ _ 7 _ _ _ _ _ _ [] (by rintro _;kernel_rfl)
def zavq:List (List Nat):=[[0,1],[0,1,10],[4],[0,1,5],[0,1,5,14],[0,1,5],[0,1,5,25],[4],[4]]
def zdf (x0 x1:(List Power)) (x2:Int): Tr (((List Power)×(List Power)×Int)⊕((Bool)⊕(Unit))) :=
 (.ite (decide (x2 < ((x0.length:Nat):Int)))
  (.guard ((0:Int)≤x2∧x2 < ((Sl.len (.powers x0):Nat):Int))
  (.guard ((0:Int)≤x2∧x2 < ((Sl.len (.powers x1):Nat):Int))
  (.ite (!(((x0.getD x2.toNat default).V==(x1.getD x2.toNat default).V)&&(((x0.getD x2.toNat default).N==(x1.getD x2.toNat default).N)&&true)))
   (.leaf (.inr (.inl false)))
   (.leaf (.inl (x0,x1,i64.wrap (x2+1)))))))
  (.leaf (.inr (.inr ()))))
def zhp (x0 x1:(List Power)) (x2:Int):=zdm (fun s:(List Power)×(List Power)×Int=>(zdf s.1 s.2.1 s.2.2).run) (x0,x1,x2)
def zavr:Ann:=⟨[],[],[],zavq,[]⟩
def zavs:=EndD.mk (LQ.v zp (LQ.v zp (Par.q intP))) ⟨[0,1,5],[.pub 0,.nilsl 0 (.powers []),.pub 1,.nilsl 1 (.powers [])]⟩ []
def zal7:=EndD.mk (Par.q boolP) ⟨[4],[]⟩ []
def zal8:EndD (Unit):=⟨LQ.nil,⟨[],[]⟩,[]⟩
def zaoz:St→Option LR:=L2 26 2 0 zavs .ret zal7 (.exit 0) zal8 (u3 zdf)
def zs118a:=sub (fb Tryz.f12) [0,1,0,1,1]
theorem zavt:zt (zyN).env 0 zs118a zaoz :=
 znl (A:=zavr) zhN fM trivial (k:=zcd zs118a) (by kernel_rfl) rfl rfl (by rintro ⟨x0,x1,x2⟩;kernel_rfl)
def zmg (a0 a1:(List Power)): Tr (Bool) :=
 (.ite (((a0.length:Nat):Int) != ((a1.length:Nat):Int))
  (.leaf false)
  (.two (zhp a0 a1 0) (fun v1 =>
   (.leaf v1)) (fun v2 =>
   (.leaf true))))
def zcg (a0 a1:(List Power)):=(zmg a0 a1).run
def zy2:=(Par.q boolP)
def zsn:SpecT:=zw 0 (LQ.v zp (Par.q zp)) 2 [] (u2 zmg) default zy2 1 []
theorem zy7:zg Tryz.prog 12 (zsn).spec :=
 sK (A:=⟨[([0,1,0,1,1],zaoz)],[],[],zavq,[]⟩) zhN fM Tryz.func12 (c:=(fb Tryz.f12)) (by kernel_rfl) (Lc:=0) ⟨zavt,trivial⟩ _ _ 2 _ _ _ _ _ _ [] (by rintro ⟨a0,a1⟩;kernel_rfl)
def zwq (a0:Deed) (a1:Reply) (a2:Wld): Tr (Bool×Wld) :=
 (.leaf (true,a2))
def zgt (a0:Deed) (a1:Reply) (a2:Wld):=(zwq a0 a1 a2).run
def z84:=(LQ.v boolP (LP.q zqf))
def z2d:SpecT:=zw 1 (LQ.kp 0 0 (LQ.v (Par.ofLP deedL) (LQ.v (Par.ofLP zzo) (LP.q zqf)))) 3 [.cells 99 159] (u3 zwq) default z84 1 [.cells 99 159]
theorem z85:zg Tryz.prog 16 (z2d).spec :=
 sK (A:=⟨[],[],[],[[],[6]],[]⟩) zhN fM Tryz.func16 (c:=(fb Tryz.f16)) (by kernel_rfl) (Lc:=1) trivial _ _ 5 _ _ _ _ _ _ [.pubN 0] (by rintro ⟨a0,a1,a2⟩;kernel_rfl)
def zavu:List (List Nat):=[[0,1],[0,1,10],[4,5],[0,1,6],[0,1,6,7],[0,1,6,7,19],[0,1,6,7],[0,1,6,7,8],[0,1,6,7,36],[4,5],[4,5]]
noncomputable def zavv:EnvT:=⟨Tryz.prog,zah [(23,z2c),(19,zwo),(17,zfx),(16,z2d)]⟩
theorem zavw:(zavv).Ok:=zf ⟨z83,zz1,zg7,z85,trivial⟩
def zt0 (x0:(List Deed)) (x1:Int) (x2:Wld): Tr (((List Deed)×Int×Wld)⊕((Bool×Wld)⊕(Wld))) :=
 (.ite ((decide (x1 < ((x0.length:Nat):Int)))&&(decide (x1 < 120)))
  (.guard ((0:Int)≤x1∧x1 < ((Sl.len (.deeds x0):Nat):Int))
  (.bind (ze (x0.getD x1.toNat default) x2) fun v3 =>
  (.guard ((0:Int)≤x1∧x1 < ((Sl.len (.deeds x0):Nat):Int))
  (.guard ((zgt (x0.getD x1.toNat default) v3.1 v3.2).isSome=true)
  (.ite (!((zgt (x0.getD x1.toNat default) v3.1 v3.2).getD default).1)
   (.leaf (.inr (.inl (false,((zgt (x0.getD x1.toNat default) v3.1 v3.2).getD default).2))))
   (.leaf (.inl (x0,i64.wrap (x1+1),((zgt (x0.getD x1.toNat default) v3.1 v3.2).getD default).2))))))))
  (.leaf (.inr (.inr x2))))
def zso (x0:(List Deed)) (x1:Int) (x2:Wld):=zdm (fun s:(List Deed)×Int×Wld=>(zt0 s.1 s.2.1 s.2.2).run) (x0,x1,x2)
def zavx:Ann:=⟨[],[],[],zavu,[]⟩
def zavy:=EndD.mk (LQ.v deedsP (LQ.k (LQ.c (.fn 16 [])) (LQ.kp 0 0 (LQ.v intP (LP.q zqf))))) ⟨[0,1,6,7],[.pub 0,.nilsl 0 (.deeds [])]⟩ [.cells 99 159]
def zal9:=EndD.mk (LQ.kp 0 0 (LQ.v boolP (LP.q zqf))) ⟨[4,5],[.pubB 4]⟩ [.cells 99 159]
def zama:=EndD.mk (LQ.kp 0 0 (LP.q zqf)) ⟨[6],[]⟩ [.cells 99 159]
def zao0:St→Option LR:=L2 39 4 0 zavy .ret zal9 (.exit 0) zama (u3 zt0)
def zs123a:=sub (fb Tryz.f8) [0,1,0,1,1,1]
theorem zavz:zt (zavv).env 0 zs123a zao0 :=
 znl (A:=zavx) zavw fM trivial (k:=zcd zs123a) (by kernel_rfl) rfl rfl (by rintro ⟨x0,x1,x2⟩;kernel_rfl)
def zt1 (a0:(List Deed)): Tr (Bool×Wld) :=
 (.bind (ztz) fun v1 =>
 (.ite (!v1)
  .fail
  (.bind (zpf) fun v2 =>
  (.two (zso a0 0 v2) (fun v4 =>
   (.leaf (v4.1,v4.2))) (fun v5 =>
   (.leaf (true,v5)))))))
def zm9 (a0:(List Deed)):=(zt1 a0).run
def z64:=(LQ.kp 0 0 (LQ.v boolP (LP.q zqf)))
def zz3:SpecT:=zw 0 (LQ.skipR (Par.q deedsP) (LQ.c (.fn 16 []))) 2 [] zt1 default z64 2 [.cells 99 159]
theorem z65:zg Tryz.prog 8 (zz3).spec :=
 sK (A:=⟨[([0,1,0,1,1,1],zao0)],[],[],zavu,[]⟩) zavw fM Tryz.func8 (c:=(fb Tryz.f8)) (by kernel_rfl) (Lc:=0) ⟨zavz,trivial⟩ _ _ 4 _ _ _ _ _ _ [.pubB 4] (by rintro a0;kernel_rfl)
def zav0:List (List Nat):=[[0,1,2],[0,1,2,6],[0,1,2,6,15],[0,1,2,6],[0,1,2,6,7],[0,1,2,6,7,25],[0,1,2,28],[0,1,2,8],[0,1,2,8,35],[0,1,2,8],[0,1,2,8],[]]
noncomputable def zav1:EnvT:=⟨Tryz.prog,zah [(17,zfx),(10,zf5),(11,zdl)]⟩
theorem zav2:(zav1).Ok:=zf ⟨zg7,zj5,zfk,trivial⟩
def zf2 (x0:Int) (x1:Bool) (x2:Int) (x3:Wld): Tr ((Int×Bool×Int×Wld)⊕((Wld)⊕(Wld))) :=
 (.ite (decide (x2 < 400))
  (.bind (ze (⟨9,x0,0,0,0,x1,false⟩:Deed) x3) fun v2 =>
  (.ite (v2.1.Code==0)
   (.leaf (.inl (x0,x1,i64.wrap (x2+1),v2.2)))
   (.ite (v2.1.Code==12)
    (.bind (zar v2.2) fun v3 =>
    (.guard ((0:Int)≤x0∧(x0:Int) < 2)
    (.ite (x1)
     (.bind (zn x0 v3.2) fun v4 =>
     (.bind (ze (⟨8,x0,0,0,0,!x1,false⟩:Deed) v4.2) fun v5 =>
     (.bind (ze (⟨10,x0,0,0,i64.wrap (v4.1.Out.Got+1),x1,false⟩:Deed) v5.2) fun v6 =>
     (.leaf (.inr (.inl v6.2))))))
     (.bind (ze (⟨8,x0,0,0,0,!x1,false⟩:Deed) v3.2) fun v7 =>
     (.bind (ze (⟨10,x0,0,0,i64.wrap ((v3.1.Links.Got.get x0)+1),x1,false⟩:Deed) v7.2) fun v8 =>
     (.leaf (.inr (.inl v8.2))))))))
    (.leaf (.inr (.inl v2.2))))))
  (.leaf (.inr (.inr x3))))
def zcp (x0:Int) (x1:Bool) (x2:Int) (x3:Wld):=zdm (fun s:Int×Bool×Int×Wld=>(zf2 s.1 s.2.1 s.2.2.1 s.2.2.2).run) (x0,x1,x2,x3)
def zav3:Ann:=⟨[],[],[],zav0,[]⟩
def zav4:=EndD.mk (LQ.kp 0 0 (LQ.v intP (LQ.v boolP (LQ.v intP (LP.q zqf))))) ⟨[0,1,2,6],[]⟩ [.cells 99 159]
def zamb:=EndD.mk (LP.q zqf) ⟨[],[]⟩ [.cells 99 159]
def zamc:=EndD.mk (LP.q zqf) ⟨[],[]⟩ [.cells 99 159]
def zao1:St→Option LR:=L2 54 5 1 zav4 .ret zamb (.exit 0) zamc (u4 zf2)
def zs124a:=sub (fb Tryz.f18) [0,1,1]
theorem zav5:zt (zav1).env 1 zs124a zao1 :=
 znl (A:=zav3) zav2 fM trivial (k:=zcd zs124a) (by kernel_rfl) rfl rfl (by rintro ⟨x0,x1,x2,x3⟩;kernel_rfl)
def zwr (a0:Int) (a1:Bool) (a2:Wld): Tr (Wld) :=
 (.bind (ze (⟨8,a0,0,0,0,a1,false⟩:Deed) a2) fun v1 =>
 (.two (zcp a0 a1 0 v1.2) (fun v9 =>
  (.leaf v9)) (fun v10 =>
  (.leaf v10))))
def ze6 (a0:Int) (a1:Bool) (a2:Wld):=(zwr a0 a1 a2).run
def z86:=(LP.q zqf)
def z2e:SpecT:=zw 1 (LQ.kp 0 0 (LQ.v intP (LQ.v boolP (LP.q zqf)))) 3 [.cells 99 159] (u3 zwr) default z86 0 [.cells 99 159]
theorem z87:zg Tryz.prog 18 (z2e).spec :=
 sK (A:=⟨[([0,1,1],zao1)],[],[],zav0,[]⟩) zav2 fM Tryz.func18 (c:=(fb Tryz.f18)) (by kernel_rfl) (Lc:=1) ⟨zav5,trivial⟩ _ _ 5 _ _ _ _ _ _ [.pubN 0] (by rintro ⟨a0,a1,a2⟩;kernel_rfl)
def zamd:List (List Nat):=[[0],[0,12],[0],[3,4],[3,21],[2],[3,5],[3,5,23],[3,5],[3,5,30],[2],[3,5],[3,5,6],[3,5,6,35],[3,5,6],[3,5,6,41],[3,5,6],[3,5,6],[3,5,6,52],[3,5,6],[3,5,6],[3,7],[3,7,8],[3,7,8,63],[3,7,8],[3,7,8,9],[3,7,8,78],[2],[2]]
noncomputable def zame:EnvT:=⟨Tryz.prog,zah [(8,zz3),(17,zfx),(11,zdl),(18,z2e),(10,zf5),(12,zsn)]⟩
theorem zamf:(zame).Ok:=zf ⟨z65,zg7,zfk,z87,zj5,zy7,trivial⟩
def zbo (x0 x1:Int) (x2:Wld): Tr ((Int×Int×Wld)⊕(Int×Wld)) :=
 (.ite (decide (x1 < 2))
  (.bind (zn x1 x2) fun v4 =>
  (.ite (v4.1.On)
   (.bind (ze (⟨7,x1,0,0,0,false,false⟩:Deed) v4.2) fun v5 =>
   (.bind (ze6 x1 false v5.2) fun v6 =>
   (.bind (zn x1 v6) fun v7 =>
   (.ite (v7.1.On)
    (.bind (ze (⟨7,x1,0,0,0,false,false⟩:Deed) v7.2) fun v8 =>
    (.bind (ze6 x1 true v8.2) fun v9 =>
    (.leaf (.inl (x0,i64.wrap (x1+1),v9)))))
    (.leaf (.inl (x0,i64.wrap (x1+1),v7.2)))))))
   (.bind (zn x1 v4.2) fun v10 =>
   (.ite (v10.1.On)
    (.bind (ze (⟨7,x1,0,0,0,false,false⟩:Deed) v10.2) fun v11 =>
    (.bind (ze6 x1 true v11.2) fun v12 =>
    (.leaf (.inl (x0,i64.wrap (x1+1),v12)))))
    (.leaf (.inl (x0,i64.wrap (x1+1),v10.2)))))))
  (.leaf (.inr (x0,x2))))
def zhq (x0 x1:Int) (x2:Wld):=zdm (fun s:Int×Int×Wld=>(zbo s.1 s.2.1 s.2.2).run) (x0,x1,x2)
def zdg (x0:Int) (x1:Wld): Tr ((Int×Wld)⊕((Bool)⊕(Wld))) :=
 (.ite (decide (x0 < 14))
  (.bind (ze (⟨5,0,0,0,10,false,false⟩:Deed) x1) fun v2 =>
  (.ite (v2.1.Code != 0)
   (.leaf (.inr (.inl true)))
   (.bind (ze (⟨6,0,0,0,0,false,false⟩:Deed) v2.2) fun v3 =>
   (.bind (zhq x0 0 v3.2) fun v13 =>
   (.leaf (.inl (i64.wrap (v13.1+1),v13.2)))))))
  (.leaf (.inr (.inr x1))))
def zej (x0:Int) (x1:Wld):=zdm (fun s:Int×Wld=>(zdg s.1 s.2).run) (x0,x1)
def zdh (x0:Int) (x1:Wld) (x2:zb): Tr ((Int×Wld×zb)⊕((Bool)⊕(zb))) :=
 (.ite (decide (x0 < 2))
  (.bind (zn x0 x1) fun v17 =>
  (.guard ((v17.1.On=true→((zcg v17.1.Set x2.Set).isSome=true)∧True))
  (.ite (v17.1.On&&(!((zcg v17.1.Set x2.Set).getD default)))
   (.leaf (.inr (.inl false)))
   (.leaf (.inl (i64.wrap (x0+1),v17.2,x2))))))
  (.leaf (.inr (.inr x2))))
def zc2 (x0:Int) (x1:Wld) (x2:zb):=zdm (fun s:Int×Wld×zb=>(zdh s.1 s.2.1 s.2.2).run) (x0,x1,x2)
def zom (x0 x1:Int) (x2:Wld): Tr ((Int×Int×Wld)⊕(Int×Wld)) :=
 (.ite (decide (x1 < 2))
  (.bind (zn x1 x2) fun v23 =>
  (.ite (v23.1.On)
   (.bind (ze (⟨7,x1,0,0,0,false,false⟩:Deed) v23.2) fun v24 =>
   (.bind (ze6 x1 false v24.2) fun v25 =>
   (.bind (zn x1 v25) fun v26 =>
   (.ite (v26.1.On)
    (.bind (ze (⟨7,x1,0,0,0,false,false⟩:Deed) v26.2) fun v27 =>
    (.bind (ze6 x1 true v27.2) fun v28 =>
    (.leaf (.inl (x0,i64.wrap (x1+1),v28)))))
    (.leaf (.inl (x0,i64.wrap (x1+1),v26.2)))))))
   (.bind (zn x1 v23.2) fun v29 =>
   (.ite (v29.1.On)
    (.bind (ze (⟨7,x1,0,0,0,false,false⟩:Deed) v29.2) fun v30 =>
    (.bind (ze6 x1 true v30.2) fun v31 =>
    (.leaf (.inl (x0,i64.wrap (x1+1),v31)))))
    (.leaf (.inl (x0,i64.wrap (x1+1),v29.2)))))))
  (.leaf (.inr (x0,x2))))
def zu2 (x0 x1:Int) (x2:Wld):=zdm (fun s:Int×Int×Wld=>(zom s.1 s.2.1 s.2.2).run) (x0,x1,x2)
def zav6:Ann:=⟨[],[],[],zamd,[]⟩
def zav7:=EndD.mk (LQ.kp 0 0 (LQ.v intP (LQ.v intP (LP.q zqf)))) ⟨[3,5,6],[]⟩ [.cells 99 159]
def zamg:=EndD.mk (LQ.kp 0 0 (LQ.v intP (LP.q zqf))) ⟨[3,5],[]⟩ [.cells 99 159]
def zao2:St→Option LR:=L1 97 5 0 zav7 (.exit 2) zamg (u3 zom)
def zs125d:=sub (fb Tryz.f6) [0,1,1,1,0,0,1,0,0,1,0,1,1,1,1]
theorem zav8:zt (zame).env 0 zs125d zao2 :=
 zht (A:=zav6) zamf fM trivial (k:=zcd zs125d) (by kernel_rfl) rfl (by rintro ⟨x0,x1,x2⟩;kernel_rfl)
def zon (x0:Int) (x1:Wld): Tr ((Int×Wld)⊕((Bool)⊕(Wld))) :=
 (.ite (decide (x0 < 14))
  (.bind (ze (⟨5,0,0,0,10,false,false⟩:Deed) x1) fun v21 =>
  (.ite (v21.1.Code != 0)
   (.leaf (.inr (.inl true)))
   (.bind (ze (⟨6,0,0,0,0,false,false⟩:Deed) v21.2) fun v22 =>
   (.bind (zu2 x0 0 v22.2) fun v32 =>
   (.leaf (.inl (i64.wrap (v32.1+1),v32.2)))))))
  (.leaf (.inr (.inr x1))))
def zmq (x0:Int) (x1:Wld):=zdm (fun s:Int×Wld=>(zon s.1 s.2).run) (x0,x1)
def zav9:Ann:=⟨[([0,1,1,1,0,0,1,0,0,1,0,1,1,1,1],zao2)],[],[],zamd,[]⟩
def zawa:=EndD.mk (LQ.kp 0 0 (LQ.v intP (LP.q zqf))) ⟨[3,5],[]⟩ [.cells 99 159]
def zamh:=EndD.mk (Par.q boolP) ⟨[2],[]⟩ []
def zami:=EndD.mk (LQ.kp 0 0 (LP.q zqf)) ⟨[3],[]⟩ [.cells 99 159]
def zao3:St→Option LR:=L2 97 5 0 zawa .ret zamh (.exit 0) zami (u2 zon)
def zs125e:=sub (fb Tryz.f6) [0,1,0,1,1,1,1]
theorem zawb:zt (zame).env 0 zs125e zao3 :=
 znl (A:=zav9) zamf fM ⟨zav8,trivial⟩ (k:=zcd zs125e) (by kernel_rfl) rfl rfl (by rintro ⟨x0,x1⟩;kernel_rfl)
def zoo (x0:Int) (x1:Wld) (x2:zb): Tr ((Int×Wld×zb)⊕((Bool)⊕(zb))) :=
 (.ite (decide (x0 < 2))
  (.bind (zn x0 x1) fun v36 =>
  (.guard ((v36.1.On=true→((zcg v36.1.Set x2.Set).isSome=true)∧True))
  (.ite (v36.1.On&&(!((zcg v36.1.Set x2.Set).getD default)))
   (.leaf (.inr (.inl false)))
   (.leaf (.inl (i64.wrap (x0+1),v36.2,x2))))))
  (.leaf (.inr (.inr x2))))
def zmr (x0:Int) (x1:Wld) (x2:zb):=zdm (fun s:Int×Wld×zb=>(zoo s.1 s.2.1 s.2.2).run) (x0,x1,x2)
def zawc:Ann:=⟨[],[],[],zamd,[]⟩
def zawd:=EndD.mk (LQ.kp 0 0 (LQ.kp 1 0 (LQ.v intP (LQ.seq (LP.q zqf) (LP.q providerL))))) ⟨[3,7,8],[]⟩ [.cells 99 159,.cells 58 97]
def zamj:=EndD.mk (Par.q boolP) ⟨[2],[]⟩ []
def zamk:=EndD.mk (LQ.kp 0 0 (LP.q providerL)) ⟨[7],[]⟩ [.cells 58 97]
def zao4:St→Option LR:=L2 97 5 0 zawd .ret zamj (.exit 4) zamk (u3 zoo)
def zs125f:=sub (fb Tryz.f6) [0,1,0,1,1,1,1,1,1]
theorem zawe:zt (zame).env 0 zs125f zao4 :=
 znl (A:=zawc) zamf fM trivial (k:=zcd zs125f) (by kernel_rfl) rfl rfl (by rintro ⟨x0,x1,x2⟩;kernel_rfl)
def zmh (a0:(List Deed)): Tr (Bool) :=
 (.ite (decide (((a0.length:Nat):Int) > 60))
  (.guard ((0:Int)≤0∧0≤(60:Int)∧60≤((Sl.len (.deeds a0):Nat):Int))
  (.bind (zm9 ((a0.drop 0).take (60 - 0))) fun v1 =>
  (.ite (!v1.1)
   (.leaf false)
   (.two (zej 0 v1.2) (fun v14 =>
    (.leaf v14)) (fun v15 =>
    (.bind (zar v15) fun v16 =>
    (.two (zc2 0 v16.2 v16.1) (fun v18 =>
     (.leaf v18)) (fun v19 =>
     (.leaf (((((v19.Stake.Waits.length:Nat):Int)==0)&&(((v19.Queue.length:Nat):Int)==0))&&(v19.Stake.Bank.Waiting==0)))))))))))
  (.bind (zm9 a0) fun v20 =>
  (.ite (!v20.1)
   (.leaf false)
   (.two (zmq 0 v20.2) (fun v33 =>
    (.leaf v33)) (fun v34 =>
    (.bind (zar v34) fun v35 =>
    (.two (zmr 0 v35.2 v35.1) (fun v37 =>
     (.leaf v37)) (fun v38 =>
     (.leaf (((((v38.Stake.Waits.length:Nat):Int)==0)&&(((v38.Queue.length:Nat):Int)==0))&&(v38.Stake.Bank.Waiting==0)))))))))))
def zg8 (a0:(List Deed)):=(zmh a0).run
def qr_top_TopSettles:=(Par.q boolP)
def z0m:SpecT:=zw 0 (Par.q deedsP) 1 [] zmh default qr_top_TopSettles 1 []
theorem zy8:zg Tryz.prog 6 (z0m).spec :=
 sK (A:=⟨[([0,1,0,1,1,1,1],zao3),([0,1,0,1,1,1,1,1,1],zao4)],[],[],zamd,[]⟩) zamf fM Tryz.func6 (c:=(fb Tryz.f6)) (by kernel_rfl) (Lc:=0) ⟨zawb,zawe,trivial⟩ _ _ 5 _ _ _ _ _ _ [] (by rintro a0;kernel_rfl)
end
