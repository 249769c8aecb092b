/-
  The functions, each by its tree.
-/
import Derived.Test.YtiacgjebngnddaaGreatXAbC
import Derived.Test.YtiacgjebngnddaaGreatXFBank
import Derived.Test.YtiacgjebngnddaaGreatXFCodec
import Derived.Test.YtiacgjebngnddaaGreatXFCons
import Derived.Test.YtiacgjebngnddaaGreatXFLine
import Derived.Test.YtiacgjebngnddaaGreatXFProv
import Derived.Test.YtiacgjebngnddaaGreatXFRatio
import Derived.Test.YtiacgjebngnddaaGreatXFStakeA
import Derived.Test.YtiacgjebngnddaaGreatXFStakeB
import Derived.Test.YtiacgjebngnddaaGreatXFWld
import Derived.Test.YtiacgjebngnddaaGreatXFacts
namespace Go.Proofs.YtiacgjebngnddaaGreat.Ab
open Go Go.RowKit
set_option maxRecDepth 100000
set_option linter.unusedVariables false
set_option linter.unusedSimpArgs false
noncomputable section
noncomputable def zax1:EnvT:=⟨Tryz.prog,zac [(19,zu7),(17,zle),(38,zm8),(11,zfl)]⟩
theorem zax2:(zax1).Ok:=zf ⟨zya,zpq,ztn,zi4,trivial⟩
def zu8  : Tr (Bool) :=
 (.bind (zn3) fun v1 =>
 (.bind (zb3 (⟨1,0,0,0,700,false,false⟩:Deed) v1) fun v2 =>
 (.bind (zb3 (⟨5,0,0,0,5,false,false⟩:Deed) v2.2) fun v3 =>
 (.bind (zb3 (⟨6,0,0,0,0,false,false⟩:Deed) v3.2) fun v4 =>
 (.bind (zb3 (⟨4,0,0,0,0,false,false⟩:Deed) v4.2) fun v5 =>
 (.ite ((((v2.1.Code==0)&&(v3.1.N==5))&&(v4.1.Code==0))&&(v5.1.N==1))
  (.bind (zgt v5.2) fun v6 =>
  (.ite ((true:Bool)&&(v6.1==5))
   (.bind (za0 0 v6.2) fun v7 =>
   (.leaf ((true:Bool)&&(((v7.1.Set.length:Nat):Int)==1))))
   (.ite ((false:Bool))
    .fail
    (.ite ((false:Bool))
     .fail
     (.ite ((false:Bool))
      .fail
      (.ite ((false:Bool))
       .fail
       (.leaf (false:Bool))))))))
  (.ite ((false:Bool))
   .fail
   (.ite ((false:Bool))
    .fail
    (.ite ((false:Bool))
     (.bind (za0 0 v5.2) fun v6 =>
     (.leaf ((true:Bool)&&(((v6.1.Set.length:Nat):Int)==1))))
     (.ite ((false:Bool))
      .fail
      (.ite ((false:Bool))
       .fail
       (.ite ((false:Bool))
        .fail
        (.ite ((false:Bool))
         .fail
         (.leaf (false:Bool)))))))))))))))
def zsm  := (zu8 ).run
def z6w:=(Par.q boolP)
def z0m:SpecT:=zr 0 LQ.nil 0 [] (fun s=>zu8 ) default z6w 1 []
theorem z6x:zg Tryz.prog 23 (z0m).spec :=
 sK (A:=⟨[],[],[[1,0,1,1]],[[],[1],[1,8],[0],[1,2],[1,2,3],[1,2,3,4],[1,2,3,4,5],[0]],[]⟩) zax2 fM Tryz.func23 (c:=(fb Tryz.f23)) (by kernel_rfl) (Lc:=0) trivial _ _ 7 _ _ _ _ _ _ [] (by rintro _;kernel_rfl)
def zard:List (List Nat):=[[0,1],[0,1,10],[4],[0,1,5],[0,1,5,14],[0,1,5],[0,1,5,25],[4],[4]]
def zc4 (x0 x1:(List Power)) (x2:Int): Tr (((List Power)×(List Power)×Int)⊕((Bool)⊕(Unit))) :=
 (.ite (decide (x2 < ((x0.length:Nat):Int)))
  (.guard ((0:Int)≤x2∧x2 < ((Sl.len (.powers x0):Nat):Int))
  (.guard ((0:Int)≤x2∧x2 < ((Sl.len (.powers x1):Nat):Int))
  (.ite (!(((x0.getD x2.toNat default).V==(x1.getD x2.toNat default).V)&&(((x0.getD x2.toNat default).N==(x1.getD x2.toNat default).N)&&true)))
   (.leaf (.inr (.inl false)))
   (.leaf (.inl (x0,x1,IntKind.i64.wrap (x2+1)))))))
  (.leaf (.inr (.inr ()))))
def zgv (x0 x1:(List Power)) (x2:Int):=zd3 (fun s:(List Power)×(List Power)×Int=>(zc4 s.1 s.2.1 s.2.2).run) (x0,x1,x2)
def zare:Ann:=⟨[],[],[],zard,[]⟩
def zarf:=EndD.mk (LQ.v zn (LQ.v zn (Par.q intP))) ⟨[0,1,5],[.pub 0,.nilsl 0 (.powers []),.pub 1,.nilsl 1 (.powers [])]⟩ []
def zaih:=EndD.mk (Par.q boolP) ⟨[4],[]⟩ []
def zaii:EndD (Unit):=⟨LQ.nil,⟨[],[]⟩,[]⟩
def zaky:St→Option LR:=L2 26 2 0 zarf .ret zaih (.exit 0) zaii (u3 zc4)
def zs118a:=sub (fb Tryz.f12) [0,1,0,1,1]
theorem zarg:zt (zyN).env 0 zs118a zaky :=
 zoc (A:=zare) zhN fM trivial (k:=zch zs118a) (by kernel_rfl) rfl rfl (by rintro ⟨x0,x1,x2⟩;kernel_rfl)
def zlf (a0 a1:(List Power)): Tr (Bool) :=
 (.ite (((a0.length:Nat):Int) != ((a1.length:Nat):Int))
  (.leaf false)
  (.two (zgv a0 a1 0) (fun v1 =>
   (.leaf v1)) (fun v2 =>
   (.leaf true))))
def zeo (a0 a1:(List Power)):=(zlf a0 a1).run
def zxi:=(Par.q boolP)
def zrd:SpecT:=zr 0 (LQ.v zn (Par.q zn)) 2 [] (u2 zlf) default zxi 1 []
theorem zxj:zg Tryz.prog 12 (zrd).spec :=
 sK (A:=⟨[([0,1,0,1,1],zaky)],[],[],zard,[]⟩) zhN fM Tryz.func12 (c:=(fb Tryz.f12)) (by kernel_rfl) (Lc:=0) ⟨zarg,trivial⟩ _ _ 2 _ _ _ _ _ _ [] (by rintro ⟨a0,a1⟩;kernel_rfl)
def zarh:List (List Nat):=[[0,3,4],[0,3,4,9],[0,3,4,9],[0,3,4,9,10],[0,3,4,9,10,22],[0,3,4,9,10],[0,3,4,9,10,11],[0,3,4,9,10,11,30],[0,3,4,9,10,11,12,13],[0,3,4,9,10,11,61],[8],[0,3,4,9,10],[8]]
noncomputable def zari:EnvT:=⟨Tryz.prog,zac [(10,zjc),(11,zfl),(12,zrd)]⟩
theorem zarj:(zari).Ok:=zf ⟨zqs,zi4,zxj,trivial⟩
def za5 (x0:Int) (x1:Wld) (x2:(A2 Int)) (x3:(List (Int×(List Power)))) (x4:za):Tr ((Int×Wld×(A2 Int)×(List (Int×(List Power)))×za)⊕((Bool×Wld×(A2 Int)×(List (Int×(List Power))))⊕(Wld×(A2 Int)×(List (Int×(List Power)))))) :=
 (.ite (decide (x0 < 2))
  (.bind (za0 x0 x1) fun v2 =>
  (.ite (!v2.1.On)
   (.leaf (.inl (IntKind.i64.wrap (x0+1),v2.2,x2,x3,x4)))
   (.guard (((!(z1k x3 v2.1.Id))=false→((zeo (z1v [] x3 v2.1.Id) v2.1.Set).isSome=true)∧True))
   (.guard ((((!(z1k x3 v2.1.Id))||(!((zeo (z1v [] x3 v2.1.Id) v2.1.Set).getD default)))=false→((0:Int)≤x0∧(x0:Int) < 2)∧True))
   (.ite ((((!(z1k x3 v2.1.Id))||(!((zeo (z1v [] x3 v2.1.Id) v2.1.Set).getD default)))||(decide (v2.1.Id < (x2.get x0))))||(decide (v2.1.Id > x4.Height)))
    (.leaf (.inr (.inl (false,v2.2,x2,x3))))
    (.guard ((0:Int)≤x0∧(x0:Int) < 2)
    (.leaf (.inl (IntKind.i64.wrap (x0+1),v2.2,(x2.set x0 v2.1.Id),x3,x4)))))))))
  (.leaf (.inr (.inr (x1,x2,x3)))))
def ze4 (x0:Int) (x1:Wld) (x2:(A2 Int)) (x3:(List (Int×(List Power)))) (x4:za):=zd3 (fun s:Int×Wld×(A2 Int)×(List (Int×(List Power)))×za=>(za5 s.1 s.2.1 s.2.2.1 s.2.2.2.1 s.2.2.2.2).run) (x0,x1,x2,x3,x4)
def zark:Ann:=⟨[],[],[],zarh,[]⟩
def zarl:=EndD.mk (LQ.kp 0 0 (LQ.kp 1 0 (LQ.kp 2 0 (LQ.kp 4 0 (LQ.v intP (LQ.seq (LP.q zsz) (LQ.k (LQ.c (.own 3)) (LQ.seq (LP.q (a2L (LP.one intP))) (LQ.v zts (LP.q providerL)))))))))) ⟨[0,3,4,9,10],[]⟩ [.cells 99 159,.cells 23 1,.cells 24 2,.maps,.cells 58 97]
def zaij:=EndD.mk (LQ.v boolP (LQ.seq (LP.q zsz) (LQ.k (LQ.c (.own 3)) (LQ.seq (LP.q (a2L (LP.one intP))) (Par.q zts))))) ⟨[8],[]⟩ [.cells 99 159,.cells 23 1,.cells 24 2,.maps]
def zaik:=EndD.mk (LQ.seq (LP.q zsz) (LQ.k (LQ.c (.own 3)) (LQ.seq (LP.q (a2L (LP.one intP))) (Par.q zts)))) ⟨[],[]⟩ [.cells 99 159,.cells 23 1,.cells 24 2,.maps]
def zakz:St→Option LR:=L2 66 9 4 zarl .ret zaij (.exit 0) zaik (u5 za5)
def zs124a:=sub (fb Tryz.f9) [0,1,0,1,1,1]
theorem zarm:zt (zari).env 4 zs124a zakz :=
 zoc (A:=zark) zarj fM trivial (k:=zch zs124a) (by kernel_rfl) rfl rfl (by rintro ⟨x0,x1,x2,x3,x4⟩;kernel_rfl)
def znd (a0:Deed) (a1:Reply) (a2:Wld) (a3:(A2 Int)) (a4:(List (Int×(List Power)))):Tr (Bool×Wld×(A2 Int)×(List (Int×(List Power)))) :=
 (.bind (zcs a2) fun v1 =>
 (.two (ze4 0 v1.2 a3 (z1l v1.1.Height v1.1.Set a4) v1.1) (fun v3 =>
  (.leaf (v3.1,v3.2.1,v3.2.2.1,v3.2.2.2))) (fun v4 =>
  (.leaf (true,v4.1,v4.2.1,v4.2.2)))))
def zay (a0:Deed) (a1:Reply) (a2:Wld) (a3:(A2 Int)) (a4:(List (Int×(List Power)))):=(znd a0 a1 a2 a3 a4).run
def zyq:=(LQ.v boolP (LQ.seq (LP.q zsz) (LQ.k (LQ.c (.own 3)) (LQ.seq (LP.q (a2L (LP.one intP))) (Par.q zts)))))
def zsn:SpecT:=zr 4 (LQ.kp 0 0 (LQ.v (Par.ofLP deedL) (LQ.v (Par.ofLP zxx) (LQ.kp 1 0 (LQ.kp 2 0 (LQ.seq (LP.q zsz) (LQ.k (LQ.c (.own 3)) (LQ.seq (LP.q (a2L (LP.one intP))) (Par.q zts))))))))) 5 [.cells 99 159,.cells 23 1,.cells 24 2,.maps] (u5 znd) default zyq 1 [.cells 99 159,.cells 23 1,.cells 24 2,.maps]
theorem zyr:zg Tryz.prog 9 (zsn).spec :=
 sK (A:=⟨[([0,1,0,1,1,1],zakz)],[],[],zarh,[]⟩) zarj fM Tryz.func9 (c:=(fb Tryz.f9)) (by kernel_rfl) (Lc:=4) ⟨zarm,trivial⟩ _ _ 9 _ _ _ _ _ _ [.pubN 0] (by rintro ⟨a0,a1,a2,a3,a4⟩;kernel_rfl)
def zarn:List (List Nat):=[[0,1],[0,1,10],[4,5],[0,1,6],[0,1,6,7],[0,1,6,7,19],[0,1,6,7],[0,1,6,7,8],[0,1,6,7,36],[4,5],[4,5]]
noncomputable def zaro:EnvT:=⟨Tryz.prog,zac [(23,z0m),(19,zu7),(17,zle),(9,zsn)]⟩
theorem zarp:(zaro).Ok:=zf ⟨z6x,zya,zpq,zyr,trivial⟩
def zdr (x0:(List Deed)) (x1:Int) (x2:(A2 Int)) (x3:(List (Int×(List Power)))) (x4:Wld):Tr (((List Deed)×Int×(A2 Int)×(List (Int×(List Power)))×Wld)⊕((Bool×(A2 Int)×(List (Int×(List Power)))×Wld)⊕((A2 Int)×(List (Int×(List Power)))×Wld))) :=
 (.ite ((decide (x1 < ((x0.length:Nat):Int)))&&(decide (x1 < 120)))
  (.guard ((0:Int)≤x1∧x1 < ((Sl.len (.deeds x0):Nat):Int))
  (.bind (zb3 (x0.getD x1.toNat default) x4) fun v3 =>
  (.guard ((0:Int)≤x1∧x1 < ((Sl.len (.deeds x0):Nat):Int))
  (.guard ((zay (x0.getD x1.toNat default) v3.1 v3.2 x2 x3).isSome=true)
  (.ite (!((zay (x0.getD x1.toNat default) v3.1 v3.2 x2 x3).getD default).1)
   (.leaf (.inr (.inl (false,(((zay (x0.getD x1.toNat default) v3.1 v3.2 x2 x3).getD default).2.2.1),((zay (x0.getD x1.toNat default) v3.1 v3.2 x2 x3).getD default).2.2.2,((zay (x0.getD x1.toNat default) v3.1 v3.2 x2 x3).getD default).2.1))))
   (.leaf (.inl (x0,IntKind.i64.wrap (x1+1),(((zay (x0.getD x1.toNat default) v3.1 v3.2 x2 x3).getD default).2.2.1),((zay (x0.getD x1.toNat default) v3.1 v3.2 x2 x3).getD default).2.2.2,((zay (x0.getD x1.toNat default) v3.1 v3.2 x2 x3).getD default).2.1))))))))
  (.leaf (.inr (.inr (x2,x3,x4)))))
def zhy (x0:(List Deed)) (x1:Int) (x2:(A2 Int)) (x3:(List (Int×(List Power)))) (x4:Wld):=zd3 (fun s:(List Deed)×Int×(A2 Int)×(List (Int×(List Power)))×Wld=>(zdr s.1 s.2.1 s.2.2.1 s.2.2.2.1 s.2.2.2.2).run) (x0,x1,x2,x3,x4)
def zarq:Ann:=⟨[],[],[],zarn,[]⟩
def zarr:=EndD.mk (LQ.v deedsP (LQ.k (LQ.c (.fn 9 [.ptr 0 0,.ptr 1 0])) (LQ.kp 3 0 (LQ.v intP (LQ.k (LQ.c (.own 2)) (LQ.seq (LP.q (a2L (LP.one intP))) (LQ.v zts (LP.q zsz)))))))) ⟨[0,1,6,7],[.pub 0,.nilsl 0 (.deeds [])]⟩ [.cells 23 1,.cells 24 2,.maps,.cells 99 159]
def zail:=EndD.mk (LQ.kp 3 0 (LQ.v boolP (LQ.k (LQ.c (.own 2)) (LQ.seq (LP.q (a2L (LP.one intP))) (LQ.v zts (LP.q zsz)))))) ⟨[4,5],[.pubB 4]⟩ [.cells 23 1,.cells 24 2,.maps,.cells 99 159]
def zaim:=EndD.mk (LQ.kp 3 0 (LQ.k (LQ.c (.own 2)) (LQ.seq (LP.q (a2L (LP.one intP))) (LQ.v zts (LP.q zsz))))) ⟨[6],[]⟩ [.cells 23 1,.cells 24 2,.maps,.cells 99 159]
def zak0:St→Option LR:=L2 39 7 3 zarr .ret zail (.exit 0) zaim (u5 zdr)
def zs125a:=sub (fb Tryz.f8) [0,1,0,1,1,1]
theorem zars:zt (zaro).env 3 zs125a zak0 :=
 zoc (A:=zarq) zarp fM trivial (k:=zch zs125a) (by kernel_rfl) rfl rfl (by rintro ⟨x0,x1,x2,x3,x4⟩;kernel_rfl)
def zne (a0:(List Deed)) (a1:(A2 Int)) (a2:(List (Int×(List Power)))):Tr (Bool×(A2 Int)×(List (Int×(List Power)))×Wld) :=
 (.bind (zsm) fun v1 =>
 (.ite (!v1)
  .fail
  (.bind (zn3) fun v2 =>
  (.two (zhy a0 0 a1 a2 v2) (fun v4 =>
   (.leaf (v4.1,v4.2.1,v4.2.2.1,v4.2.2.2))) (fun v5 =>
   (.leaf (true,v5.1,v5.2.1,v5.2.2)))))))
def zre (a0:(List Deed)) (a1:(A2 Int)) (a2:(List (Int×(List Power)))):=(zne a0 a1 a2).run
def zys:=(LQ.kp 3 0 (LQ.v boolP (LQ.k (LQ.c (.own 2)) (LQ.seq (LP.q (a2L (LP.one intP))) (LQ.v zts (LP.q zsz))))))
def zso:SpecT:=zr 3 (LQ.v deedsP (LQ.k (LQ.c (.fn 9 [.ptr 0 0,.ptr 1 0])) (LQ.k (LQ.c (.own 2)) (LQ.seq (LP.q (a2L (LP.one intP))) (Par.q zts))))) 2 [.cells 23 1,.cells 24 2,.maps] (u3 zne) default zys 2 [.cells 23 1,.cells 24 2,.maps,.cells 99 159]
theorem zyt:zg Tryz.prog 8 (zso).spec :=
 sK (A:=⟨[([0,1,0,1,1,1],zak0)],[],[],zarn,[]⟩) zarp fM Tryz.func8 (c:=(fb Tryz.f8)) (by kernel_rfl) (Lc:=3) ⟨zars,trivial⟩ _ _ 7 _ _ _ _ _ _ [.pubB 4] (by rintro ⟨a0,a1,a2⟩;kernel_rfl)
noncomputable def zax3:EnvT:=⟨Tryz.prog,zac [(8,zso)]⟩
theorem zax4:(zax3).Ok:=zf ⟨zyt,trivial⟩
def zqt (a0:(List Deed)): Tr (Bool) :=
 (.bind (zre a0 (⟨0,0⟩:(A2 Int)) []) fun v1 =>
 (.leaf v1.1))
def zkc (a0:(List Deed)):=(zqt a0).run
def qr_top_TopSets:=(Par.q boolP)
def z4u:SpecT:=zr 0 (Par.q deedsP) 1 [] zqt default qr_top_TopSets 1 []
theorem z2b:zg Tryz.prog 3 (z4u).spec :=
 sK (A:=⟨[],[],[],[[0],[0,3],[0,3,4],[6],[2]],[]⟩) zax4 fM Tryz.func3 (c:=(fb Tryz.f3)) (by kernel_rfl) (Lc:=0) trivial _ _ 6 _ _ _ _ _ _ [] (by rintro a0;kernel_rfl)
end
