/-
  The functions, each by its tree.
-/
import Derived.Test.YtiacgjebngnddaaGreatXAbC
import Derived.Test.YtiacgjebngnddaaGreatXAbIter
import Derived.Test.YtiacgjebngnddaaGreatXFBank
import Derived.Test.YtiacgjebngnddaaGreatXFCodec
import Derived.Test.YtiacgjebngnddaaGreatXFCons
import Derived.Test.YtiacgjebngnddaaGreatXFLine
import Derived.Test.YtiacgjebngnddaaGreatXFProv
import Derived.Test.YtiacgjebngnddaaGreatXFRatio
import Derived.Test.YtiacgjebngnddaaGreatXFStakeA
import Derived.Test.YtiacgjebngnddaaGreatXFStakeB
import Derived.Test.YtiacgjebngnddaaGreatXFWld
import Derived.Test.YtiacgjebngnddaaGreatXFacts
namespace Go.Proofs.YtiacgjebngnddaaGreat.Ab
open Go Go.RowKit
open Go.IntKind (i64 u64)
set_option maxRecDepth 100000
set_option linter.unusedVariables false
set_option linter.unusedSimpArgs false
noncomputable section
noncomputable def za3i:EnvT:=⟨Tryz.prog,zad [(19,zsr),(17,zi3),(38,zo4),(11,zkw)],false⟩
theorem za3j:(za3i).Ok:=zf ⟨zuf,zlo,zvh,zss,trivial⟩
def zxc  : Tr (Bool) :=
 (.bind (zmi) fun v1 =>
 (.bind (zx (⟨1,0,0,0,700,false,false⟩:Deed) v1) fun v2 =>
 (.bind (zx (⟨5,0,0,0,5,false,false⟩:Deed) v2.2) fun v3 =>
 (.bind (zx (⟨6,0,0,0,0,false,false⟩:Deed) v3.2) fun v4 =>
 (.bind (zx (⟨4,0,0,0,0,false,false⟩:Deed) v4.2) fun v5 =>
 (.ite ((((v2.1.Code==0)&&(v3.1.N==5))&&(v4.1.Code==0))&&(v5.1.N==1))
  (.bind (zh8 v5.2) fun v6 =>
  (.ite ((true:Bool)&&(v6.1==5))
   (.bind (zbx 0 v6.2) fun v7 =>
   (.leaf ((true:Bool)&&(((v7.1.Set.length:Nat):Int)==1))))
   (.ite ((false:Bool))
    .fail
    (.ite ((false:Bool))
     .fail
     (.ite ((false:Bool))
      .fail
      (.ite ((false:Bool))
       .fail
       (.leaf (false:Bool))))))))
  (.ite ((false:Bool))
   .fail
   (.ite ((false:Bool))
    .fail
    (.ite ((false:Bool))
     (.bind (zbx 0 v5.2) fun v6 =>
     (.leaf ((true:Bool)&&(((v6.1.Set.length:Nat):Int)==1))))
     (.ite ((false:Bool))
      .fail
      (.ite ((false:Bool))
       .fail
       (.ite ((false:Bool))
        .fail
        (.ite ((false:Bool))
         .fail
         (.leaf (false:Bool)))))))))))))))
def zul  := (zxc ).run
def z89:=(Par.q boolP)
def z2t:SpecT:=zu 0 LQ.nil 0 [] (fun s=>zxc ) default z89 1 []
theorem z9a:zg Tryz.prog 23 (z2t).spec :=
 sK (A:=⟨[],[],[[1,0,1,1]],[[],[1],[1,8],[0],[1,2],[1,2,3],[1,2,3,4],[1,2,3,4,5],[0]],[]⟩) za3j fM Tryz.func23 (c:=(fb Tryz.f23)) (by kernel_rfl) (Lc:=0) trivial _ _ 7 _ _ _ _ _ _ [] (by rintro _;kernel_rfl)
def zau5:List (List Nat):=[[0,1],[0,1,10],[4],[0,1,5],[0,1,5,14],[0,1,5],[0,1,5,25],[4],[4]]
def zdv (x0 x1:(List Power)) (x2:Int): Tr (((List Power)×(List Power)×Int)⊕((Bool)⊕(Unit))) :=
 (.ite (decide (x2 < ((x0.length:Nat):Int)))
  (.guard ((0:Int)≤x2∧x2 < ((Sl.len (.powers x0):Nat):Int))
  (.guard ((0:Int)≤x2∧x2 < ((Sl.len (.powers x1):Nat):Int))
  (.ite (!(((x0.getD x2.toNat default).V==(x1.getD x2.toNat default).V)&&(((x0.getD x2.toNat default).N==(x1.getD x2.toNat default).N)&&true)))
   (.leaf (.inr (.inl false)))
   (.leaf (.inl (x0,x1,i64.wrap (x2+1)))))))
  (.leaf (.inr (.inr ()))))
def zib (x0 x1:(List Power)) (x2:Int):=zcv (fun s:(List Power)×(List Power)×Int=>(zdv s.1 s.2.1 s.2.2).run) (x0,x1,x2)
def zau6:Ann:=⟨[],[],[],zau5,[]⟩
def zau7:=EndD.mk (LQ.v zd (LQ.v zd (Par.q intP))) ⟨[0,1,5],[.pub 0,.nilsl 0 (.powers []),.pub 1,.nilsl 1 (.powers [])]⟩ []
def zak2:=EndD.mk (Par.q boolP) ⟨[4],[]⟩ []
def zak3:EndD (Unit):=⟨LQ.nil,⟨[],[]⟩,[]⟩
def zany:St→Option LR:=L2 26 2 0 zau7 .ret zak2 (.exit 0) zak3 (u3 zdv)
def zs124a:=sub (fb Tryz.f12) [0,1,0,1,1]
theorem zau8:zl (zyN).env 0 zs124a zany :=
 zmq (A:=zau6) zhN fM trivial (k:=za5 zs124a) (by kernel_rfl) rfl rfl (by rintro ⟨x0,x1,x2⟩;kernel_rfl)
def zm6 (a0 a1:(List Power)): Tr (Bool) :=
 (.ite (((a0.length:Nat):Int) != ((a1.length:Nat):Int))
  (.leaf false)
  (.two (zib a0 a1 0) (fun v1 =>
   (.leaf v1)) (fun v2 =>
   (.leaf true))))
def zau (a0 a1:(List Power)):=(zm6 a0 a1).run
def zzv:=(Par.q boolP)
def zm7:SpecT:=zu 0 (LQ.v zd (Par.q zd)) 2 [] (u2 zm6) default zzv 1 []
theorem zro:zg Tryz.prog 12 (zm7).spec :=
 sK (A:=⟨[([0,1,0,1,1],zany)],[],[],zau5,[]⟩) zhN fM Tryz.func12 (c:=(fb Tryz.f12)) (by kernel_rfl) (Lc:=0) ⟨zau8,trivial⟩ _ _ 2 _ _ _ _ _ _ [] (by rintro ⟨a0,a1⟩;kernel_rfl)
def zaqy:List (List Nat):=[[2,3],[2,3,36],[4],[2,3,39,40],[2,3,39,40,41],[2,3,5,39,40],[2,3,39,40,53],[4],[2,3,39,40],[2,3,57,58],[2,3,57,58,59],[2,3,6,57,58],[2,3,57,58,71],[4],[2,3,57,58],[4]]
def zfc (x0 x1:Int) (x2 x3:zcd): Tr ((Int×Int×zcd×zcd)⊕((Bool)⊕(zcd×zcd))) :=
 (.ite (decide (x1 < x0))
  (.guard ((0:Int)≤x1∧x1 < ((Sl.len (.strs x2.Said):Nat):Int))
  (.guard ((0:Int)≤x1∧x1 < ((Sl.len (.strs x3.Said):Nat):Int))
  (.ite (!((x2.Said.getD x1.toNat .empty).toList==(x3.Said.getD x1.toNat .empty).toList))
   (.leaf (.inr (.inl false)))
   (.leaf (.inl (x0,i64.wrap (x1+1),x2,x3))))))
  (.leaf (.inr (.inr (x2,x3)))))
def zkk (x0 x1:Int) (x2 x3:zcd):=zcv (fun s:Int×Int×zcd×zcd=>(zfc s.1 s.2.1 s.2.2.1 s.2.2.2).run) (x0,x1,x2,x3)
def zau9:Ann:=⟨[],[],[],zaqy,[]⟩
def zava:=EndD.mk (LQ.kp 0 0 (LQ.kp 1 0 (LQ.v intP (LQ.v intP (LQ.seq (LP.q lineL) (LP.q lineL)))))) ⟨[2,3,39,40],[]⟩ [.cells 48 4,.cells 48 4]
def zak4:=EndD.mk (Par.q boolP) ⟨[4],[]⟩ []
def zak5:=EndD.mk (LQ.kp 0 0 (LQ.kp 1 0 (LQ.seq (LP.q lineL) (LP.q lineL)))) ⟨[2,3],[]⟩ [.cells 48 4,.cells 48 4]
def zanz:St→Option LR:=L2 73 4 0 zava .ret zak4 (.exit 0) zak5 (u4 zfc)
def zs125a:=sub (fb Tryz.f37) [0,1,0,1,1]
theorem zavb:zl (zyN).env 0 zs125a zanz :=
 zmq (A:=zau9) zhN fM trivial (k:=za5 zs125a) (by kernel_rfl) rfl rfl (by rintro ⟨x0,x1,x2,x3⟩;kernel_rfl)
def zfd (x0 x1:Int) (x2 x3:zcd): Tr ((Int×Int×zcd×zcd)⊕((Bool)⊕(Unit))) :=
 (.ite (decide (x1 < x0))
  (.guard ((0:Int)≤x1∧x1 < ((Sl.len (.ints x2.Due):Nat):Int))
  (.guard ((0:Int)≤x1∧x1 < ((Sl.len (.ints x3.Due):Nat):Int))
  (.ite ((x2.Due.getD x1.toNat 0) != (x3.Due.getD x1.toNat 0))
   (.leaf (.inr (.inl false)))
   (.leaf (.inl (x0,i64.wrap (x1+1),x2,x3))))))
  (.leaf (.inr (.inr ()))))
def zkl (x0 x1:Int) (x2 x3:zcd):=zcv (fun s:Int×Int×zcd×zcd=>(zfd s.1 s.2.1 s.2.2.1 s.2.2.2).run) (x0,x1,x2,x3)
def zavc:Ann:=⟨[],[],[],zaqy,[]⟩
def zavd:=EndD.mk (LQ.kp 0 0 (LQ.kp 1 0 (LQ.v intP (LQ.v intP (LQ.seq (LP.q lineL) (LP.q lineL)))))) ⟨[2,3,57,58],[]⟩ [.cells 48 4,.cells 48 4]
def zak6:=EndD.mk (Par.q boolP) ⟨[4],[]⟩ []
def zak7:EndD (Unit):=⟨LQ.nil,⟨[],[]⟩,[]⟩
def zan0:St→Option LR:=L2 73 4 0 zavd .ret zak6 (.exit 2) zak7 (u4 zfd)
def zs125b:=sub (fb Tryz.f37) [0,1,0,1,1,1]
theorem zave:zl (zyN).env 0 zs125b zan0 :=
 zmq (A:=zavc) zhN fM trivial (k:=za5 zs125b) (by kernel_rfl) rfl rfl (by rintro ⟨x0,x1,x2,x3⟩;kernel_rfl)
def zq2 (a0 a1:zcd): Tr (Bool) :=
 (.ite ((((((a0.Said.length:Nat):Int) != ((a1.Said.length:Nat):Int))||(((a0.Due.length:Nat):Int) != ((a1.Due.length:Nat):Int)))||(a0.Got != a1.Got))||(!(a0.Closed==a1.Closed)))
  (.leaf false)
  (.two (zkk ((a0.Said.length:Nat):Int) 0 a0 a1) (fun v1 =>
   (.leaf v1)) (fun v2 =>
   (.two (zkl ((v2.1.Due.length:Nat):Int) 0 v2.1 v2.2) (fun v3 =>
    (.leaf v3)) (fun v4 =>
    (.leaf true))))))
def zfe (a0 a1:zcd):=(zq2 a0 a1).run
def z2u:=(Par.q boolP)
def zq3:SpecT:=zu 0 (LQ.v (Par.ofLP lineL) (Par.q (Par.ofLP lineL))) 2 [] (u2 zq2) default z2u 1 []
theorem zum:zg Tryz.prog 37 (zq3).spec :=
 sK (A:=⟨[([0,1,0,1,1],zanz),([0,1,0,1,1,1],zan0)],[],[],zaqy,[]⟩) zhN fM Tryz.func37 (c:=(fb Tryz.f37)) (by kernel_rfl) (Lc:=0) ⟨zavb,zave,trivial⟩ _ _ 4 _ _ _ _ _ _ [] (by rintro ⟨a0,a1⟩;kernel_rfl)
def zaqz:List (List Nat):=[[2,3],[2,3,82],[4],[2,3,86,87],[2,3,86,87,88],[2,3,5,86,87],[2,3,86,87,102],[4],[2,3,86,87],[2,3,104],[2,3,104,105],[2,3,6,104],[2,3,7,8,104],[2,3,104,165],[4],[2,3,104],[4]]
noncomputable def zaq0:EnvT:=⟨Tryz.prog,zad [(12,zm7),(37,zq3)],false⟩
theorem zaq1:(zaq0).Ok:=zf ⟨zro,zum,trivial⟩
def zcn (x0 x1:Int) (x2 x3:za): Tr ((Int×Int×za×za)⊕((Bool)⊕(za×za))) :=
 (.ite (decide (x1 < x0))
  (.guard ((0:Int)≤x1∧x1 < ((Sl.len (.waits x2.Stake.Waits):Nat):Int))
  (.guard ((0:Int)≤x1∧x1 < ((Sl.len (.waits x3.Stake.Waits):Nat):Int))
  (.ite (!(zagq (x2.Stake.Waits.getD x1.toNat default) (x3.Stake.Waits.getD x1.toNat default)))
   (.leaf (.inr (.inl false)))
   (.leaf (.inl (x0,i64.wrap (x1+1),x2,x3))))))
  (.leaf (.inr (.inr (x2,x3)))))
def zgi (x0 x1:Int) (x2 x3:za):=zcv (fun s:Int×Int×za×za=>(zcn s.1 s.2.1 s.2.2.1 s.2.2.2).run) (x0,x1,x2,x3)
def zavf:Ann:=⟨[],[],[],zaqz,[]⟩
def zavg:=EndD.mk (LQ.kp 0 0 (LQ.kp 1 0 (LQ.v intP (LQ.v intP (LQ.seq (LP.q providerL) (LP.q providerL)))))) ⟨[2,3,86,87],[]⟩ [.cells 58 97,.cells 58 97]
def zak8:=EndD.mk (Par.q boolP) ⟨[4],[]⟩ []
def zak9:=EndD.mk (LQ.kp 0 0 (LQ.kp 1 0 (LQ.seq (LP.q providerL) (LP.q providerL)))) ⟨[2,3],[]⟩ [.cells 58 97,.cells 58 97]
def zan1:St→Option LR:=L2 167 6 0 zavg .ret zak8 (.exit 0) zak9 (u4 zcn)
def zs126a:=sub (fb Tryz.f21) [0,1,0,1,1]
theorem zavh:zl (zaq0).env 0 zs126a zan1 :=
 zmq (A:=zavf) zaq1 fM trivial (k:=za5 zs126a) (by kernel_rfl) rfl rfl (by rintro ⟨x0,x1,x2,x3⟩;kernel_rfl)
def zbn (x0:Int) (x1 x2:za): Tr ((Int×za×za)⊕((Bool)⊕(Unit))) :=
 (.ite (decide (x0 < 2))
  (.guard ((0:Int)≤x0∧(x0:Int) < 2)
  (.guard ((0:Int)≤x0∧(x0:Int) < 2)
  (.guard (((((((!((x1.Links.On.get x0)==(x2.Links.On.get x0)))||(!((x1.Links.Gone.get x0)==(x2.Links.Gone.get x0))))||(!((x1.Links.Fresh.get x0)==(x2.Links.Fresh.get x0))))||(!(z0b (zh x1.Links x0).Seen (zh x2.Links x0).Seen)))||((((x1.Links.Done.get x0).length:Nat):Int) != (((x2.Links.Done.get x0).length:Nat):Int)))=false→((zau (x1.Links.Told.get x0) (x2.Links.Told.get x0)).isSome=true)∧True))
  (.guard ((((((((!((x1.Links.On.get x0)==(x2.Links.On.get x0)))||(!((x1.Links.Gone.get x0)==(x2.Links.Gone.get x0))))||(!((x1.Links.Fresh.get x0)==(x2.Links.Fresh.get x0))))||(!(z0b (zh x1.Links x0).Seen (zh x2.Links x0).Seen)))||((((x1.Links.Done.get x0).length:Nat):Int) != (((x2.Links.Done.get x0).length:Nat):Int)))||(!((zau (x1.Links.Told.get x0) (x2.Links.Told.get x0)).getD default)))=false→((zfe (zh x1.Links x0).Out (zh x2.Links x0).Out).isSome=true)∧True))
  (.ite (((((((!((x1.Links.On.get x0)==(x2.Links.On.get x0)))||(!((x1.Links.Gone.get x0)==(x2.Links.Gone.get x0))))||(!((x1.Links.Fresh.get x0)==(x2.Links.Fresh.get x0))))||(!(z0b (zh x1.Links x0).Seen (zh x2.Links x0).Seen)))||((((x1.Links.Done.get x0).length:Nat):Int) != (((x2.Links.Done.get x0).length:Nat):Int)))||(!((zau (x1.Links.Told.get x0) (x2.Links.Told.get x0)).getD default)))||(!((zfe (zh x1.Links x0).Out (zh x2.Links x0).Out).getD default)))
   (.leaf (.inr (.inl false)))
   (.leaf (.inl (i64.wrap (x0+1),x1,x2))))))))
  (.leaf (.inr (.inr ()))))
def zgj (x0:Int) (x1 x2:za):=zcv (fun s:Int×za×za=>(zbn s.1 s.2.1 s.2.2).run) (x0,x1,x2)
def zavi:Ann:=⟨[],[],[],zaqz,[]⟩
def zavj:=EndD.mk (LQ.kp 0 0 (LQ.kp 1 0 (LQ.v intP (LQ.seq (LP.q providerL) (LP.q providerL))))) ⟨[2,3,104],[]⟩ [.cells 58 97,.cells 58 97]
def zala:=EndD.mk (Par.q boolP) ⟨[4],[]⟩ []
def zalb:EndD (Unit):=⟨LQ.nil,⟨[],[]⟩,[]⟩
def zan2:St→Option LR:=L2 167 6 0 zavj .ret zala (.exit 2) zalb (u3 zbn)
def zs126b:=sub (fb Tryz.f21) [0,1,0,1,1,1]
theorem zavk:zl (zaq0).env 0 zs126b zan2 :=
 zmq (A:=zavi) zaq1 fM trivial (k:=za5 zs126b) (by kernel_rfl) rfl rfl (by rintro ⟨x0,x1,x2⟩;kernel_rfl)
def zkm (a0 a1:za): Tr (Bool) :=
 (.guard ((((((((((a0.Height != a1.Height)||(a0.Time != a1.Time))||(!(zacq a0.Stake.Bank a1.Stake.Bank)))||(!(zacr a0.Stake.Validators a1.Stake.Validators)))||(!(z05 a0.Stake.Shares a1.Stake.Shares)))||(!((a0.Meter.Left==a1.Meter.Left)&&((a0.Meter.Next==a1.Meter.Next)&&true))))||(((a0.Stake.Waits.length:Nat):Int) != ((a1.Stake.Waits.length:Nat):Int)))||(((a0.Queue.length:Nat):Int) != ((a1.Queue.length:Nat):Int)))=false→((zau a0.Set a1.Set).isSome=true)∧True))
 (.ite (((((((((a0.Height != a1.Height)||(a0.Time != a1.Time))||(!(zacq a0.Stake.Bank a1.Stake.Bank)))||(!(zacr a0.Stake.Validators a1.Stake.Validators)))||(!(z05 a0.Stake.Shares a1.Stake.Shares)))||(!((a0.Meter.Left==a1.Meter.Left)&&((a0.Meter.Next==a1.Meter.Next)&&true))))||(((a0.Stake.Waits.length:Nat):Int) != ((a1.Stake.Waits.length:Nat):Int)))||(((a0.Queue.length:Nat):Int) != ((a1.Queue.length:Nat):Int)))||(!((zau a0.Set a1.Set).getD default)))
  (.leaf false)
  (.two (zgi ((a0.Stake.Waits.length:Nat):Int) 0 a0 a1) (fun v1 =>
   (.leaf v1)) (fun v2 =>
   (.two (zgj 0 v2.1 v2.2) (fun v3 =>
    (.leaf v3)) (fun v4 =>
    (.leaf true)))))))
def zfw (a0 a1:za):=(zkm a0 a1).run
def zxd:=(Par.q boolP)
def zp0:SpecT:=zu 0 (LQ.v (Par.ofLP providerL) (Par.q (Par.ofLP providerL))) 2 [] (u2 zkm) default zxd 1 []
theorem zxe:zg Tryz.prog 21 (zp0).spec :=
 sK (A:=⟨[([0,1,0,1,1],zan1),([0,1,0,1,1,1],zan2)],[],[],zaqz,[]⟩) zaq1 fM Tryz.func21 (c:=(fb Tryz.f21)) (by kernel_rfl) (Lc:=0) ⟨zavh,zavk,trivial⟩ _ _ 6 _ _ _ _ _ _ [] (by rintro ⟨a0,a1⟩;kernel_rfl)
noncomputable def za3k:EnvT:=⟨Tryz.prog,zad [(12,zm7),(37,zq3)],false⟩
theorem za3l:(za3k).Ok:=zf ⟨zro,zum,trivial⟩
def zkn (a0 a1:zb): Tr (Bool) :=
 (.guard (((((((((((a0.On==a1.On)&&(a0.Gone==a1.Gone))&&(a0.Height==a1.Height))&&(a0.Time==a1.Time))&&(a0.Id==a1.Id))&&(z1n a0.Flags a1.Flags))&&(z0b a0.Seen a1.Seen))&&(((a0.Pending.length:Nat):Int)==((a1.Pending.length:Nat):Int)))&&(((a0.Ripes.length:Nat):Int)==((a1.Ripes.length:Nat):Int)))=true→((zau a0.Set a1.Set).isSome=true)∧True))
 (.guard ((((((((((((a0.On==a1.On)&&(a0.Gone==a1.Gone))&&(a0.Height==a1.Height))&&(a0.Time==a1.Time))&&(a0.Id==a1.Id))&&(z1n a0.Flags a1.Flags))&&(z0b a0.Seen a1.Seen))&&(((a0.Pending.length:Nat):Int)==((a1.Pending.length:Nat):Int)))&&(((a0.Ripes.length:Nat):Int)==((a1.Ripes.length:Nat):Int)))&&((zau a0.Set a1.Set).getD default))=true→((zfe a0.Out a1.Out).isSome=true)∧True))
 (.leaf (((((((((((a0.On==a1.On)&&(a0.Gone==a1.Gone))&&(a0.Height==a1.Height))&&(a0.Time==a1.Time))&&(a0.Id==a1.Id))&&(z1n a0.Flags a1.Flags))&&(z0b a0.Seen a1.Seen))&&(((a0.Pending.length:Nat):Int)==((a1.Pending.length:Nat):Int)))&&(((a0.Ripes.length:Nat):Int)==((a1.Ripes.length:Nat):Int)))&&((zau a0.Set a1.Set).getD default))&&((zfe a0.Out a1.Out).getD default)))))
def zfx (a0 a1:zb):=(zkn a0 a1).run
def zxf:=(Par.q boolP)
def zp1:SpecT:=zu 0 (LQ.v (Par.ofLP z5) (Par.q (Par.ofLP z5))) 2 [] (u2 zkn) default zxf 1 []
theorem zxg:zg Tryz.prog 22 (zp1).spec :=
 sK (A:=⟨[],[],[],[[2,3],[4]],[]⟩) za3l fM Tryz.func22 (c:=(fb Tryz.f22)) (by kernel_rfl) (Lc:=0) trivial _ _ 4 _ _ _ _ _ _ [] (by rintro ⟨a0,a1⟩;kernel_rfl)
noncomputable def znd:SpecT:=z65 zp0
theorem zun:zg Tryz.prog 21 (znd).spec:=z5c zxe
noncomputable def zne:SpecT:=z65 zp1
theorem zuo:zg Tryz.prog 22 (zne).spec:=z5c zxg
def zvi:List (List Nat):=[[0,3,5,6],[0,3,28],[7],[0,3,8],[0,3,8,35],[7],[0,3,8,39,40],[0,3,8,39,40,41],[0,3,8,9,39,40],[0,3,8,39,40],[0,3,8,39,40],[0,3,8,52,53],[0,3,8,52,53,54],[0,3,8,10,52,53],[0,3,8,52,53],[0,3,8,52,53],[0,3,8,62],[0,3,8,62,63],[0,3,8,11,62],[0,3,8,12,62],[0,3,8,12,62,72,73],[0,3,8,12,62,72,73,74],[0,3,8,12,13,62,72,73],[0,3,8,12,62,72,73],[0,3,8,12,62,72,73],[0,3,8,12,62,88,89],[0,3,8,12,62,88,89,90],[0,3,8,12,14,62,88,89],[0,3,8,12,62,88,89],[0,3,8,12,62,88,89],[0,3,8,12,62,104,105],[0,3,8,12,62,104,105,106],[0,3,8,12,15,62,104,105],[0,3,8,12,62,104,105],[0,3,8,12,62,104,105],[0,3,8,62],[0,3,8,126,127],[0,3,8,126,127,128],[0,3,8,16,126,127],[0,3,8,126,127],[0,3,8,126,127],[0,3,17],[0,3,17,137],[0,3,17],[0,3,17,18],[0,3,17,18,148],[7],[0,3,17,18,151,152],[0,3,17,18,151,152,153],[0,3,17,18,19,151,152],[0,3,17,18,151,152],[0,3,17,18,151,152],[0,3,17,18,163,164],[0,3,17,18,163,164,165],[0,3,17,18,20,163,164],[0,3,17,18,20,163,164,173,174],[0,3,17,18,20,163,164,173,174,175],[0,3,17,18,20,21,163,164,173,174],[0,3,17,18,20,163,164,173,174],[0,3,17,18,20,163,164,173,174],[0,3,17,18,163,164],[0,3,17,18,163,164],[0,3,17,18,195,196],[0,3,17,18,195,196,197],[0,3,17,18,22,195,196],[0,3,17,18,195,196],[0,3,17,18,195,196],[0,3,17,18,208,209],[0,3,17,18,208,209,210],[0,3,17,18,23,208,209],[0,3,17,18,208,209],[0,3,17,18,208,209],[7]]
noncomputable def zvj:EnvT:=⟨Tryz.prog,zad [(17,zi3),(10,zjq),(21,znd),(11,zjr),(22,zne)],true⟩
theorem zvk:(zvj).Ok:=zf ⟨zlo,zq0,zun,zq1,zuo,trivial⟩
def zc7 (x0 x1:Int) (x2 x3:Wld) (x4:za): Tr ((Int×Int×Wld×Wld×za)⊕(Wld×Wld×za)) :=
 (.ite (decide (x1 < x0))
  (.guard ((0:Int)≤x1∧x1 < ((Sl.len (.waits x4.Stake.Waits):Nat):Int))
  (.leaf (.inl (x0,i64.wrap (x1+1),x2,x3,{ x4 with Stake:={ x4.Stake with Waits:=x4.Stake.Waits.set x1.toNat ({ ((x4.Stake.Waits.getD x1.toNat default):Wait) with Amount := -1 }) } }))))
  (.leaf (.inr (x2,x3,x4))))
def zha (x0 x1:Int) (x2 x3:Wld) (x4:za):=zcv (fun s:Int×Int×Wld×Wld×za=>(zc7 s.1 s.2.1 s.2.2.1 s.2.2.2.1 s.2.2.2.2).run) (x0,x1,x2,x3,x4)
def zavl:Ann:=⟨[],[],[],zvi,[]⟩
def zavm:=EndD.mk (LQ.map (LQ.kp 0 0 (LQ.kp 1 0 (LQ.kp 3 0 (LQ.v intP (LQ.v intP (LQ.seq (LP.q zc4) (LQ.kp 2 0 (LQ.seq (LP.q zc4) (LQ.v intP (LQ.v intP (LQ.seq (LP.q bankL) (LQ.seq (LP.q validatorsL) (LQ.seq (LP.q (a4L (a6L (LP.one intP)))) (LQ.k (LQ.c (.own 4)) (LQ.v intP (LQ.k (LQ.c (.own 5)) (LQ.v boolP (LQ.v boolP (LQ.v intP (LQ.k (LQ.c (.own 6)) (LQ.v boolP (LQ.k (LQ.c (.own 7)) (LQ.k (LQ.c (.own 8)) (LQ.k (LQ.c (.own 9)) (LQ.v intP (LQ.v boolP (LQ.v intP (LQ.v intP (LQ.v intP (LQ.v intP (LQ.v boolP (LQ.v boolP (LQ.v intP (LQ.k (LQ.c (.own 10)) (LQ.v boolP (LQ.k (LQ.c (.own 11)) (LQ.k (LQ.c (.own 12)) (LQ.k (LQ.c (.own 13)) (LQ.v intP (LQ.v boolP (LQ.v intP (LQ.v intP (LQ.v intP (LQ.v intP (LQ.seq (LP.q meterL) (LQ.k (LQ.c (.own 14)) (LQ.v zc6 (LQ.v zd (LQ.v zd (LQ.v zt (LQ.v zb6 (LQ.v zt (LQ.v zd (LQ.v zt (LQ.v zb6 (LQ.v zt (Par.q zbe))))))))))))))))))))))))))))))))))))))))))))))))))))))))) (fun x=>(x.1,x.2.1,x.2.2.1,x.2.2.2.1,(⟨(d4 x).1,(d4 x).2.1,(⟨(d4 x).2.2.1,(d4 x).2.2.2.1,(d8 x).1,(d28 x).2.2.2.1,(d8 x).2.1⟩:Stake),(d32 x).1,(⟨(⟨(d8 x).2.2.1,(d20 x).1⟩:(A2 Bool)),(⟨(d8 x).2.2.2.1,(d20 x).2.1⟩:(A2 Bool)),(⟨(d12 x).1,(d20 x).2.2.1⟩:(A2 Int)),(⟨(d32 x).2.1,(d36 x).2.1⟩:(A2 (List Power))),(⟨(d12 x).2.1,(d20 x).2.2.2.1⟩:(A2 Bool)),(⟨(d32 x).2.2.1,(d36 x).2.2.1⟩:(A2 (List Int))),(⟨(d32 x).2.2.2.1,(d36 x).2.2.2.1⟩:(A2 (List ByteArray))),(⟨(d36 x).1,(d40 x).1⟩:(A2 (List Int))),(⟨(d12 x).2.2.1,(d24 x).1⟩:(A2 Int)),(⟨(d12 x).2.2.2.1,(d24 x).2.1⟩:(A2 Bool)),(⟨(d16 x).1,(d24 x).2.2.1⟩:(A2 Int)),(⟨(d16 x).2.1,(d24 x).2.2.2.1⟩:(A2 Int)),(⟨(d16 x).2.2.1,(d28 x).1⟩:(A2 Int)),(⟨(d16 x).2.2.2.1,(d28 x).2.1⟩:(A2 Int))⟩:Links),(d28 x).2.2.1,(d40 x).2⟩:za))) (fun y=>(y.1,y.2.1,y.2.2.1,y.2.2.2.1,(d4 y).Height,(d4 y).Time,(d4 y).Stake.Bank,(d4 y).Stake.Validators,(d4 y).Stake.Shares,(d4 y).Stake.Next,(d4 y).Links.On.x0,(d4 y).Links.Gone.x0,(d4 y).Links.Base.x0,(d4 y).Links.Fresh.x0,(d4 y).Links.Got.x0,(d4 y).Links.Closed.x0,(d4 y).Links.SHeight.x0,(d4 y).Links.STime.x0,(d4 y).Links.SSaid.x0,(d4 y).Links.SGot.x0,(d4 y).Links.On.x1,(d4 y).Links.Gone.x1,(d4 y).Links.Base.x1,(d4 y).Links.Fresh.x1,(d4 y).Links.Got.x1,(d4 y).Links.Closed.x1,(d4 y).Links.SHeight.x1,(d4 y).Links.STime.x1,(d4 y).Links.SSaid.x1,(d4 y).Links.SGot.x1,(d4 y).Meter,(d4 y).Stake.Waits,(d4 y).Set,(d4 y).Links.Told.x0,(d4 y).Links.Done.x0,(d4 y).Links.Said.x0,(d4 y).Links.Due.x0,(d4 y).Links.Told.x1,(d4 y).Links.Done.x1,(d4 y).Links.Said.x1,(d4 y).Links.Due.x1,(d4 y).Queue)) (fun _=>rfl)) ⟨[0,3,8,39,40],[.nilcell 8 63 78 (.waits []),.nilcell 8 65 83 (.powers []),.nilcell 8 69 83 (.powers []),.nilcell 8 71 3 (.ints []),.nilcell 8 72 9 (.strs []),.nilcell 8 73 3 (.ints []),.nilcell 8 83 83 (.powers []),.nilcell 8 85 3 (.ints []),.nilcell 8 86 9 (.strs []),.nilcell 8 87 3 (.ints []),.nilcell 8 96 90 (.asked [])]⟩ [.cells 99 159,.cells 25 1,.cells 99 159,.cells 58 97,.rows 78,.rows 83,.rows 83,.rows 3,.rows 9,.rows 3,.rows 83,.rows 3,.rows 9,.rows 3,.rows 90]
def zalc:=EndD.mk (LQ.map (LQ.kp 0 0 (LQ.kp 1 0 (LQ.kp 3 0 (LQ.seq (LP.q zc4) (LQ.kp 2 0 (LQ.seq (LP.q zc4) (LQ.v intP (LQ.v intP (LQ.seq (LP.q bankL) (LQ.seq (LP.q validatorsL) (LQ.seq (LP.q (a4L (a6L (LP.one intP)))) (LQ.k (LQ.c (.own 4)) (LQ.v intP (LQ.k (LQ.c (.own 5)) (LQ.v boolP (LQ.v boolP (LQ.v intP (LQ.k (LQ.c (.own 6)) (LQ.v boolP (LQ.k (LQ.c (.own 7)) (LQ.k (LQ.c (.own 8)) (LQ.k (LQ.c (.own 9)) (LQ.v intP (LQ.v boolP (LQ.v intP (LQ.v intP (LQ.v intP (LQ.v intP (LQ.v boolP (LQ.v boolP (LQ.v intP (LQ.k (LQ.c (.own 10)) (LQ.v boolP (LQ.k (LQ.c (.own 11)) (LQ.k (LQ.c (.own 12)) (LQ.k (LQ.c (.own 13)) (LQ.v intP (LQ.v boolP (LQ.v intP (LQ.v intP (LQ.v intP (LQ.v intP (LQ.seq (LP.q meterL) (LQ.k (LQ.c (.own 14)) (LQ.v zc6 (LQ.v zd (LQ.v zd (LQ.v zt (LQ.v zb6 (LQ.v zt (LQ.v zd (LQ.v zt (LQ.v zb6 (LQ.v zt (Par.q zbe))))))))))))))))))))))))))))))))))))))))))))))))))))))) (fun x=>(x.1,x.2.1,(⟨x.2.2.1,x.2.2.2.1,(⟨(d4 x).1,(d4 x).2.1,(d4 x).2.2.1,(d28 x).2.1,(d4 x).2.2.2.1⟩:Stake),(d28 x).2.2.1,(⟨(⟨(d8 x).1,(d16 x).2.2.1⟩:(A2 Bool)),(⟨(d8 x).2.1,(d16 x).2.2.2.1⟩:(A2 Bool)),(⟨(d8 x).2.2.1,(d20 x).1⟩:(A2 Int)),(⟨(d28 x).2.2.2.1,(d32 x).2.2.2.1⟩:(A2 (List Power))),(⟨(d8 x).2.2.2.1,(d20 x).2.1⟩:(A2 Bool)),(⟨(d32 x).1,(d36 x).1⟩:(A2 (List Int))),(⟨(d32 x).2.1,(d36 x).2.1⟩:(A2 (List ByteArray))),(⟨(d32 x).2.2.1,(d36 x).2.2.1⟩:(A2 (List Int))),(⟨(d12 x).1,(d20 x).2.2.1⟩:(A2 Int)),(⟨(d12 x).2.1,(d20 x).2.2.2.1⟩:(A2 Bool)),(⟨(d12 x).2.2.1,(d24 x).1⟩:(A2 Int)),(⟨(d12 x).2.2.2.1,(d24 x).2.1⟩:(A2 Int)),(⟨(d16 x).1,(d24 x).2.2.1⟩:(A2 Int)),(⟨(d16 x).2.1,(d24 x).2.2.2.1⟩:(A2 Int))⟩:Links),(d28 x).1,(d36 x).2.2.2⟩:za))) (fun y=>(y.1,y.2.1,y.2.2.Height,y.2.2.Time,y.2.2.Stake.Bank,y.2.2.Stake.Validators,y.2.2.Stake.Shares,y.2.2.Stake.Next,y.2.2.Links.On.x0,y.2.2.Links.Gone.x0,y.2.2.Links.Base.x0,y.2.2.Links.Fresh.x0,y.2.2.Links.Got.x0,y.2.2.Links.Closed.x0,y.2.2.Links.SHeight.x0,y.2.2.Links.STime.x0,y.2.2.Links.SSaid.x0,y.2.2.Links.SGot.x0,y.2.2.Links.On.x1,y.2.2.Links.Gone.x1,y.2.2.Links.Base.x1,y.2.2.Links.Fresh.x1,y.2.2.Links.Got.x1,y.2.2.Links.Closed.x1,y.2.2.Links.SHeight.x1,y.2.2.Links.STime.x1,y.2.2.Links.SSaid.x1,y.2.2.Links.SGot.x1,y.2.2.Meter,y.2.2.Stake.Waits,y.2.2.Set,y.2.2.Links.Told.x0,y.2.2.Links.Done.x0,y.2.2.Links.Said.x0,y.2.2.Links.Due.x0,y.2.2.Links.Told.x1,y.2.2.Links.Done.x1,y.2.2.Links.Said.x1,y.2.2.Links.Due.x1,y.2.2.Queue)) (fun _=>rfl)) ⟨[0,3,8],[.nilcell 8 63 78 (.waits []),.nilcell 8 65 83 (.powers []),.nilcell 8 69 83 (.powers []),.nilcell 8 71 3 (.ints []),.nilcell 8 72 9 (.strs []),.nilcell 8 73 3 (.ints []),.nilcell 8 83 83 (.powers []),.nilcell 8 85 3 (.ints []),.nilcell 8 86 9 (.strs []),.nilcell 8 87 3 (.ints []),.nilcell 8 96 90 (.asked [])]⟩ [.cells 99 159,.cells 25 1,.cells 99 159,.cells 58 97,.rows 78,.rows 83,.rows 83,.rows 3,.rows 9,.rows 3,.rows 83,.rows 3,.rows 9,.rows 3,.rows 90]
def zan3:St→Option LR:=L1 218 30 3 zavm (.exit 0) zalc (u5 zc7)
def zs141a:=sub (fb Tryz.f20) [0,1,0,1,1,1,1]
theorem zavn:zl (zvj).env 3 zs141a zan3 :=
 zd1 (A:=zavl) zvk fM trivial (k:=za5 zs141a) (by kernel_rfl) rfl (by rintro ⟨x0,x1,x2,x3,x4⟩;kernel_rfl)
def zc8 (x0 x1:Int) (x2 x3:Wld) (x4:za): Tr ((Int×Int×Wld×Wld×za)⊕(Wld×Wld×za)) :=
 (.ite (decide (x1 < x0))
  (.guard ((0:Int)≤x1∧x1 < ((Sl.len (.powers x4.Set):Nat):Int))
  (.leaf (.inl (x0,i64.wrap (x1+1),x2,x3,{ x4 with Set:=x4.Set.set x1.toNat (⟨(x4.Set.getD x1.toNat default).V,-1⟩:Power) }))))
  (.leaf (.inr (x2,x3,x4))))
def zhb (x0 x1:Int) (x2 x3:Wld) (x4:za):=zcv (fun s:Int×Int×Wld×Wld×za=>(zc8 s.1 s.2.1 s.2.2.1 s.2.2.2.1 s.2.2.2.2).run) (x0,x1,x2,x3,x4)
def zavo:Ann:=⟨[],[],[],zvi,[]⟩
def zavp:=EndD.mk (LQ.map (LQ.kp 0 0 (LQ.kp 1 0 (LQ.kp 3 0 (LQ.v intP (LQ.v intP (LQ.seq (LP.q zc4) (LQ.kp 2 0 (LQ.seq (LP.q zc4) (LQ.v intP (LQ.v intP (LQ.seq (LP.q bankL) (LQ.seq (LP.q validatorsL) (LQ.seq (LP.q (a4L (a6L (LP.one intP)))) (LQ.k (LQ.c (.own 4)) (LQ.v intP (LQ.k (LQ.c (.own 5)) (LQ.v boolP (LQ.v boolP (LQ.v intP (LQ.k (LQ.c (.own 6)) (LQ.v boolP (LQ.k (LQ.c (.own 7)) (LQ.k (LQ.c (.own 8)) (LQ.k (LQ.c (.own 9)) (LQ.v intP (LQ.v boolP (LQ.v intP (LQ.v intP (LQ.v intP (LQ.v intP (LQ.v boolP (LQ.v boolP (LQ.v intP (LQ.k (LQ.c (.own 10)) (LQ.v boolP (LQ.k (LQ.c (.own 11)) (LQ.k (LQ.c (.own 12)) (LQ.k (LQ.c (.own 13)) (LQ.v intP (LQ.v boolP (LQ.v intP (LQ.v intP (LQ.v intP (LQ.v intP (LQ.seq (LP.q meterL) (LQ.k (LQ.c (.own 14)) (LQ.v zc6 (LQ.v zd (LQ.v zd (LQ.v zt (LQ.v zb6 (LQ.v zt (LQ.v zd (LQ.v zt (LQ.v zb6 (LQ.v zt (Par.q zbe))))))))))))))))))))))))))))))))))))))))))))))))))))))))) (fun x=>(x.1,x.2.1,x.2.2.1,x.2.2.2.1,(⟨(d4 x).1,(d4 x).2.1,(⟨(d4 x).2.2.1,(d4 x).2.2.2.1,(d8 x).1,(d28 x).2.2.2.1,(d8 x).2.1⟩:Stake),(d32 x).1,(⟨(⟨(d8 x).2.2.1,(d20 x).1⟩:(A2 Bool)),(⟨(d8 x).2.2.2.1,(d20 x).2.1⟩:(A2 Bool)),(⟨(d12 x).1,(d20 x).2.2.1⟩:(A2 Int)),(⟨(d32 x).2.1,(d36 x).2.1⟩:(A2 (List Power))),(⟨(d12 x).2.1,(d20 x).2.2.2.1⟩:(A2 Bool)),(⟨(d32 x).2.2.1,(d36 x).2.2.1⟩:(A2 (List Int))),(⟨(d32 x).2.2.2.1,(d36 x).2.2.2.1⟩:(A2 (List ByteArray))),(⟨(d36 x).1,(d40 x).1⟩:(A2 (List Int))),(⟨(d12 x).2.2.1,(d24 x).1⟩:(A2 Int)),(⟨(d12 x).2.2.2.1,(d24 x).2.1⟩:(A2 Bool)),(⟨(d16 x).1,(d24 x).2.2.1⟩:(A2 Int)),(⟨(d16 x).2.1,(d24 x).2.2.2.1⟩:(A2 Int)),(⟨(d16 x).2.2.1,(d28 x).1⟩:(A2 Int)),(⟨(d16 x).2.2.2.1,(d28 x).2.1⟩:(A2 Int))⟩:Links),(d28 x).2.2.1,(d40 x).2⟩:za))) (fun y=>(y.1,y.2.1,y.2.2.1,y.2.2.2.1,(d4 y).Height,(d4 y).Time,(d4 y).Stake.Bank,(d4 y).Stake.Validators,(d4 y).Stake.Shares,(d4 y).Stake.Next,(d4 y).Links.On.x0,(d4 y).Links.Gone.x0,(d4 y).Links.Base.x0,(d4 y).Links.Fresh.x0,(d4 y).Links.Got.x0,(d4 y).Links.Closed.x0,(d4 y).Links.SHeight.x0,(d4 y).Links.STime.x0,(d4 y).Links.SSaid.x0,(d4 y).Links.SGot.x0,(d4 y).Links.On.x1,(d4 y).Links.Gone.x1,(d4 y).Links.Base.x1,(d4 y).Links.Fresh.x1,(d4 y).Links.Got.x1,(d4 y).Links.Closed.x1,(d4 y).Links.SHeight.x1,(d4 y).Links.STime.x1,(d4 y).Links.SSaid.x1,(d4 y).Links.SGot.x1,(d4 y).Meter,(d4 y).Stake.Waits,(d4 y).Set,(d4 y).Links.Told.x0,(d4 y).Links.Done.x0,(d4 y).Links.Said.x0,(d4 y).Links.Due.x0,(d4 y).Links.Told.x1,(d4 y).Links.Done.x1,(d4 y).Links.Said.x1,(d4 y).Links.Due.x1,(d4 y).Queue)) (fun _=>rfl)) ⟨[0,3,8,52,53],[.nilcell 8 63 78 (.waits []),.nilcell 8 65 83 (.powers []),.nilcell 8 69 83 (.powers []),.nilcell 8 71 3 (.ints []),.nilcell 8 72 9 (.strs []),.nilcell 8 73 3 (.ints []),.nilcell 8 83 83 (.powers []),.nilcell 8 85 3 (.ints []),.nilcell 8 86 9 (.strs []),.nilcell 8 87 3 (.ints []),.nilcell 8 96 90 (.asked [])]⟩ [.cells 99 159,.cells 25 1,.cells 99 159,.cells 58 97,.rows 78,.rows 83,.rows 83,.rows 3,.rows 9,.rows 3,.rows 83,.rows 3,.rows 9,.rows 3,.rows 90]
def zald:=EndD.mk (LQ.map (LQ.kp 0 0 (LQ.kp 1 0 (LQ.kp 3 0 (LQ.seq (LP.q zc4) (LQ.kp 2 0 (LQ.seq (LP.q zc4) (LQ.v intP (LQ.v intP (LQ.seq (LP.q bankL) (LQ.seq (LP.q validatorsL) (LQ.seq (LP.q (a4L (a6L (LP.one intP)))) (LQ.k (LQ.c (.own 4)) (LQ.v intP (LQ.k (LQ.c (.own 5)) (LQ.v boolP (LQ.v boolP (LQ.v intP (LQ.k (LQ.c (.own 6)) (LQ.v boolP (LQ.k (LQ.c (.own 7)) (LQ.k (LQ.c (.own 8)) (LQ.k (LQ.c (.own 9)) (LQ.v intP (LQ.v boolP (LQ.v intP (LQ.v intP (LQ.v intP (LQ.v intP (LQ.v boolP (LQ.v boolP (LQ.v intP (LQ.k (LQ.c (.own 10)) (LQ.v boolP (LQ.k (LQ.c (.own 11)) (LQ.k (LQ.c (.own 12)) (LQ.k (LQ.c (.own 13)) (LQ.v intP (LQ.v boolP (LQ.v intP (LQ.v intP (LQ.v intP (LQ.v intP (LQ.seq (LP.q meterL) (LQ.k (LQ.c (.own 14)) (LQ.v zc6 (LQ.v zd (LQ.v zd (LQ.v zt (LQ.v zb6 (LQ.v zt (LQ.v zd (LQ.v zt (LQ.v zb6 (LQ.v zt (Par.q zbe))))))))))))))))))))))))))))))))))))))))))))))))))))))) (fun x=>(x.1,x.2.1,(⟨x.2.2.1,x.2.2.2.1,(⟨(d4 x).1,(d4 x).2.1,(d4 x).2.2.1,(d28 x).2.1,(d4 x).2.2.2.1⟩:Stake),(d28 x).2.2.1,(⟨(⟨(d8 x).1,(d16 x).2.2.1⟩:(A2 Bool)),(⟨(d8 x).2.1,(d16 x).2.2.2.1⟩:(A2 Bool)),(⟨(d8 x).2.2.1,(d20 x).1⟩:(A2 Int)),(⟨(d28 x).2.2.2.1,(d32 x).2.2.2.1⟩:(A2 (List Power))),(⟨(d8 x).2.2.2.1,(d20 x).2.1⟩:(A2 Bool)),(⟨(d32 x).1,(d36 x).1⟩:(A2 (List Int))),(⟨(d32 x).2.1,(d36 x).2.1⟩:(A2 (List ByteArray))),(⟨(d32 x).2.2.1,(d36 x).2.2.1⟩:(A2 (List Int))),(⟨(d12 x).1,(d20 x).2.2.1⟩:(A2 Int)),(⟨(d12 x).2.1,(d20 x).2.2.2.1⟩:(A2 Bool)),(⟨(d12 x).2.2.1,(d24 x).1⟩:(A2 Int)),(⟨(d12 x).2.2.2.1,(d24 x).2.1⟩:(A2 Int)),(⟨(d16 x).1,(d24 x).2.2.1⟩:(A2 Int)),(⟨(d16 x).2.1,(d24 x).2.2.2.1⟩:(A2 Int))⟩:Links),(d28 x).1,(d36 x).2.2.2⟩:za))) (fun y=>(y.1,y.2.1,y.2.2.Height,y.2.2.Time,y.2.2.Stake.Bank,y.2.2.Stake.Validators,y.2.2.Stake.Shares,y.2.2.Stake.Next,y.2.2.Links.On.x0,y.2.2.Links.Gone.x0,y.2.2.Links.Base.x0,y.2.2.Links.Fresh.x0,y.2.2.Links.Got.x0,y.2.2.Links.Closed.x0,y.2.2.Links.SHeight.x0,y.2.2.Links.STime.x0,y.2.2.Links.SSaid.x0,y.2.2.Links.SGot.x0,y.2.2.Links.On.x1,y.2.2.Links.Gone.x1,y.2.2.Links.Base.x1,y.2.2.Links.Fresh.x1,y.2.2.Links.Got.x1,y.2.2.Links.Closed.x1,y.2.2.Links.SHeight.x1,y.2.2.Links.STime.x1,y.2.2.Links.SSaid.x1,y.2.2.Links.SGot.x1,y.2.2.Meter,y.2.2.Stake.Waits,y.2.2.Set,y.2.2.Links.Told.x0,y.2.2.Links.Done.x0,y.2.2.Links.Said.x0,y.2.2.Links.Due.x0,y.2.2.Links.Told.x1,y.2.2.Links.Done.x1,y.2.2.Links.Said.x1,y.2.2.Links.Due.x1,y.2.2.Queue)) (fun _=>rfl)) ⟨[0,3,8],[.nilcell 8 63 78 (.waits []),.nilcell 8 65 83 (.powers []),.nilcell 8 69 83 (.powers []),.nilcell 8 71 3 (.ints []),.nilcell 8 72 9 (.strs []),.nilcell 8 73 3 (.ints []),.nilcell 8 83 83 (.powers []),.nilcell 8 85 3 (.ints []),.nilcell 8 86 9 (.strs []),.nilcell 8 87 3 (.ints []),.nilcell 8 96 90 (.asked [])]⟩ [.cells 99 159,.cells 25 1,.cells 99 159,.cells 58 97,.rows 78,.rows 83,.rows 83,.rows 3,.rows 9,.rows 3,.rows 83,.rows 3,.rows 9,.rows 3,.rows 90]
def zan4:St→Option LR:=L1 218 30 3 zavp (.exit 2) zald (u5 zc8)
def zs141b:=sub (fb Tryz.f20) [0,1,0,1,1,1,1,1]
theorem zavq:zl (zvj).env 3 zs141b zan4 :=
 zd1 (A:=zavo) zvk fM trivial (k:=za5 zs141b) (by kernel_rfl) rfl (by rintro ⟨x0,x1,x2,x3,x4⟩;kernel_rfl)
def zc9 (x0 x1:Int) (x2 x3:Wld) (x4:za): Tr ((Int×Int×Wld×Wld×za)⊕(Wld×Wld×za)) :=
 (.ite (decide (x1 < x0))
  (.guard ((0:Int)≤x1∧x1 < ((Sl.len (.powers x4.Links.Told.x0):Nat):Int))
  (.leaf (.inl (x0,i64.wrap (x1+1),x2,x3,{ x4 with Links:={ x4.Links with Told:=(⟨x4.Links.Told.x0.set x1.toNat (⟨(x4.Links.Told.x0.getD x1.toNat default).V,-1⟩:Power),x4.Links.Told.x1⟩:(A2 (List Power))) } }))))
  (.leaf (.inr (x2,x3,x4))))
def zhc (x0 x1:Int) (x2 x3:Wld) (x4:za):=zcv (fun s:Int×Int×Wld×Wld×za=>(zc9 s.1 s.2.1 s.2.2.1 s.2.2.2.1 s.2.2.2.2).run) (x0,x1,x2,x3,x4)
def zavr:Ann:=⟨[],[],[],zvi,[]⟩
def zavs:=EndD.mk (LQ.map (LQ.kp 0 0 (LQ.kp 1 0 (LQ.kp 3 0 (LQ.kp 3 66 (LQ.k (LQ.kint 0) (LQ.v intP (LQ.v intP (LQ.seq (LP.q zc4) (LQ.kp 2 0 (LQ.seq (LP.q zc4) (LQ.v intP (LQ.v intP (LQ.seq (LP.q bankL) (LQ.seq (LP.q validatorsL) (LQ.seq (LP.q (a4L (a6L (LP.one intP)))) (LQ.k (LQ.c (.own 4)) (LQ.v intP (LQ.k (LQ.c (.own 5)) (LQ.v boolP (LQ.v boolP (LQ.v intP (LQ.k (LQ.c (.own 6)) (LQ.v boolP (LQ.k (LQ.c (.own 7)) (LQ.k (LQ.c (.own 8)) (LQ.k (LQ.c (.own 9)) (LQ.v intP (LQ.v boolP (LQ.v intP (LQ.v intP (LQ.v intP (LQ.v intP (LQ.v boolP (LQ.v boolP (LQ.v intP (LQ.k (LQ.c (.own 10)) (LQ.v boolP (LQ.k (LQ.c (.own 11)) (LQ.k (LQ.c (.own 12)) (LQ.k (LQ.c (.own 13)) (LQ.v intP (LQ.v boolP (LQ.v intP (LQ.v intP (LQ.v intP (LQ.v intP (LQ.seq (LP.q meterL) (LQ.k (LQ.c (.own 14)) (LQ.v zc6 (LQ.v zd (LQ.v zd (LQ.v zt (LQ.v zb6 (LQ.v zt (LQ.v zd (LQ.v zt (LQ.v zb6 (LQ.v zt (Par.q zbe))))))))))))))))))))))))))))))))))))))))))))))))))))))))))) (fun x=>(x.1,x.2.1,x.2.2.1,x.2.2.2.1,(⟨(d4 x).1,(d4 x).2.1,(⟨(d4 x).2.2.1,(d4 x).2.2.2.1,(d8 x).1,(d28 x).2.2.2.1,(d8 x).2.1⟩:Stake),(d32 x).1,(⟨(⟨(d8 x).2.2.1,(d20 x).1⟩:(A2 Bool)),(⟨(d8 x).2.2.2.1,(d20 x).2.1⟩:(A2 Bool)),(⟨(d12 x).1,(d20 x).2.2.1⟩:(A2 Int)),(⟨(d32 x).2.1,(d36 x).2.1⟩:(A2 (List Power))),(⟨(d12 x).2.1,(d20 x).2.2.2.1⟩:(A2 Bool)),(⟨(d32 x).2.2.1,(d36 x).2.2.1⟩:(A2 (List Int))),(⟨(d32 x).2.2.2.1,(d36 x).2.2.2.1⟩:(A2 (List ByteArray))),(⟨(d36 x).1,(d40 x).1⟩:(A2 (List Int))),(⟨(d12 x).2.2.1,(d24 x).1⟩:(A2 Int)),(⟨(d12 x).2.2.2.1,(d24 x).2.1⟩:(A2 Bool)),(⟨(d16 x).1,(d24 x).2.2.1⟩:(A2 Int)),(⟨(d16 x).2.1,(d24 x).2.2.2.1⟩:(A2 Int)),(⟨(d16 x).2.2.1,(d28 x).1⟩:(A2 Int)),(⟨(d16 x).2.2.2.1,(d28 x).2.1⟩:(A2 Int))⟩:Links),(d28 x).2.2.1,(d40 x).2⟩:za))) (fun y=>(y.1,y.2.1,y.2.2.1,y.2.2.2.1,(d4 y).Height,(d4 y).Time,(d4 y).Stake.Bank,(d4 y).Stake.Validators,(d4 y).Stake.Shares,(d4 y).Stake.Next,(d4 y).Links.On.x0,(d4 y).Links.Gone.x0,(d4 y).Links.Base.x0,(d4 y).Links.Fresh.x0,(d4 y).Links.Got.x0,(d4 y).Links.Closed.x0,(d4 y).Links.SHeight.x0,(d4 y).Links.STime.x0,(d4 y).Links.SSaid.x0,(d4 y).Links.SGot.x0,(d4 y).Links.On.x1,(d4 y).Links.Gone.x1,(d4 y).Links.Base.x1,(d4 y).Links.Fresh.x1,(d4 y).Links.Got.x1,(d4 y).Links.Closed.x1,(d4 y).Links.SHeight.x1,(d4 y).Links.STime.x1,(d4 y).Links.SSaid.x1,(d4 y).Links.SGot.x1,(d4 y).Meter,(d4 y).Stake.Waits,(d4 y).Set,(d4 y).Links.Told.x0,(d4 y).Links.Done.x0,(d4 y).Links.Said.x0,(d4 y).Links.Due.x0,(d4 y).Links.Told.x1,(d4 y).Links.Done.x1,(d4 y).Links.Said.x1,(d4 y).Links.Due.x1,(d4 y).Queue)) (fun _=>rfl)) ⟨[0,3,8,12,62,72,73],[.nilcell 8 63 78 (.waits []),.nilcell 8 65 83 (.powers []),.nilcell 8 69 83 (.powers []),.nilcell 8 71 3 (.ints []),.nilcell 8 72 9 (.strs []),.nilcell 8 73 3 (.ints []),.nilcell 8 83 83 (.powers []),.nilcell 8 85 3 (.ints []),.nilcell 8 86 9 (.strs []),.nilcell 8 87 3 (.ints []),.nilcell 8 96 90 (.asked [])]⟩ [.cells 99 159,.cells 25 1,.cells 99 159,.cells 58 97,.rows 78,.rows 83,.rows 83,.rows 3,.rows 9,.rows 3,.rows 83,.rows 3,.rows 9,.rows 3,.rows 90]
def zale:=EndD.mk (LQ.map (LQ.kp 0 0 (LQ.kp 1 0 (LQ.kp 3 0 (LQ.kp 3 66 (LQ.k (LQ.kint 0) (LQ.seq (LP.q zc4) (LQ.kp 2 0 (LQ.seq (LP.q zc4) (LQ.v intP (LQ.v intP (LQ.seq (LP.q bankL) (LQ.seq (LP.q validatorsL) (LQ.seq (LP.q (a4L (a6L (LP.one intP)))) (LQ.k (LQ.c (.own 4)) (LQ.v intP (LQ.k (LQ.c (.own 5)) (LQ.v boolP (LQ.v boolP (LQ.v intP (LQ.k (LQ.c (.own 6)) (LQ.v boolP (LQ.k (LQ.c (.own 7)) (LQ.k (LQ.c (.own 8)) (LQ.k (LQ.c (.own 9)) (LQ.v intP (LQ.v boolP (LQ.v intP (LQ.v intP (LQ.v intP (LQ.v intP (LQ.v boolP (LQ.v boolP (LQ.v intP (LQ.k (LQ.c (.own 10)) (LQ.v boolP (LQ.k (LQ.c (.own 11)) (LQ.k (LQ.c (.own 12)) (LQ.k (LQ.c (.own 13)) (LQ.v intP (LQ.v boolP (LQ.v intP (LQ.v intP (LQ.v intP (LQ.v intP (LQ.seq (LP.q meterL) (LQ.k (LQ.c (.own 14)) (LQ.v zc6 (LQ.v zd (LQ.v zd (LQ.v zt (LQ.v zb6 (LQ.v zt (LQ.v zd (LQ.v zt (LQ.v zb6 (LQ.v zt (Par.q zbe))))))))))))))))))))))))))))))))))))))))))))))))))))))))) (fun x=>(x.1,x.2.1,(⟨x.2.2.1,x.2.2.2.1,(⟨(d4 x).1,(d4 x).2.1,(d4 x).2.2.1,(d28 x).2.1,(d4 x).2.2.2.1⟩:Stake),(d28 x).2.2.1,(⟨(⟨(d8 x).1,(d16 x).2.2.1⟩:(A2 Bool)),(⟨(d8 x).2.1,(d16 x).2.2.2.1⟩:(A2 Bool)),(⟨(d8 x).2.2.1,(d20 x).1⟩:(A2 Int)),(⟨(d28 x).2.2.2.1,(d32 x).2.2.2.1⟩:(A2 (List Power))),(⟨(d8 x).2.2.2.1,(d20 x).2.1⟩:(A2 Bool)),(⟨(d32 x).1,(d36 x).1⟩:(A2 (List Int))),(⟨(d32 x).2.1,(d36 x).2.1⟩:(A2 (List ByteArray))),(⟨(d32 x).2.2.1,(d36 x).2.2.1⟩:(A2 (List Int))),(⟨(d12 x).1,(d20 x).2.2.1⟩:(A2 Int)),(⟨(d12 x).2.1,(d20 x).2.2.2.1⟩:(A2 Bool)),(⟨(d12 x).2.2.1,(d24 x).1⟩:(A2 Int)),(⟨(d12 x).2.2.2.1,(d24 x).2.1⟩:(A2 Int)),(⟨(d16 x).1,(d24 x).2.2.1⟩:(A2 Int)),(⟨(d16 x).2.1,(d24 x).2.2.2.1⟩:(A2 Int))⟩:Links),(d28 x).1,(d36 x).2.2.2⟩:za))) (fun y=>(y.1,y.2.1,y.2.2.Height,y.2.2.Time,y.2.2.Stake.Bank,y.2.2.Stake.Validators,y.2.2.Stake.Shares,y.2.2.Stake.Next,y.2.2.Links.On.x0,y.2.2.Links.Gone.x0,y.2.2.Links.Base.x0,y.2.2.Links.Fresh.x0,y.2.2.Links.Got.x0,y.2.2.Links.Closed.x0,y.2.2.Links.SHeight.x0,y.2.2.Links.STime.x0,y.2.2.Links.SSaid.x0,y.2.2.Links.SGot.x0,y.2.2.Links.On.x1,y.2.2.Links.Gone.x1,y.2.2.Links.Base.x1,y.2.2.Links.Fresh.x1,y.2.2.Links.Got.x1,y.2.2.Links.Closed.x1,y.2.2.Links.SHeight.x1,y.2.2.Links.STime.x1,y.2.2.Links.SSaid.x1,y.2.2.Links.SGot.x1,y.2.2.Meter,y.2.2.Stake.Waits,y.2.2.Set,y.2.2.Links.Told.x0,y.2.2.Links.Done.x0,y.2.2.Links.Said.x0,y.2.2.Links.Due.x0,y.2.2.Links.Told.x1,y.2.2.Links.Done.x1,y.2.2.Links.Said.x1,y.2.2.Links.Due.x1,y.2.2.Queue)) (fun _=>rfl)) ⟨[0,3,8,12,62],[.nilcell 8 63 78 (.waits []),.nilcell 8 65 83 (.powers []),.nilcell 8 69 83 (.powers []),.nilcell 8 71 3 (.ints []),.nilcell 8 72 9 (.strs []),.nilcell 8 73 3 (.ints []),.nilcell 8 83 83 (.powers []),.nilcell 8 85 3 (.ints []),.nilcell 8 86 9 (.strs []),.nilcell 8 87 3 (.ints []),.nilcell 8 96 90 (.asked [])]⟩ [.cells 99 159,.cells 25 1,.cells 99 159,.cells 58 97,.rows 78,.rows 83,.rows 83,.rows 3,.rows 9,.rows 3,.rows 83,.rows 3,.rows 9,.rows 3,.rows 90]
def zan5:St→Option LR:=L1 218 30 3 zavs (.exit 6) zale (u5 zc9)
def zs141c:=sub (fb Tryz.f20) [0,1,0,1,1,0,0,1,1,4,0,1,0,1,1,1,1,1,1]
theorem zavt:zl (zvj).env 3 zs141c zan5 :=
 zd1 (A:=zavr) zvk fM trivial (k:=za5 zs141c) (by kernel_rfl) rfl (by rintro ⟨x0,x1,x2,x3,x4⟩;kernel_rfl)
def zda (x0 x1:Int) (x2 x3:Wld) (x4:za): Tr ((Int×Int×Wld×Wld×za)⊕(Wld×Wld×za)) :=
 (.ite (decide (x1 < x0))
  (.guard ((0:Int)≤x1∧x1 < ((Sl.len (.ints x4.Links.Done.x0):Nat):Int))
  (.leaf (.inl (x0,i64.wrap (x1+1),x2,x3,{ x4 with Links:={ x4.Links with Done:=(⟨x4.Links.Done.x0.set x1.toNat (-1),x4.Links.Done.x1⟩:(A2 (List Int))) } }))))
  (.leaf (.inr (x2,x3,x4))))
def zhd (x0 x1:Int) (x2 x3:Wld) (x4:za):=zcv (fun s:Int×Int×Wld×Wld×za=>(zda s.1 s.2.1 s.2.2.1 s.2.2.2.1 s.2.2.2.2).run) (x0,x1,x2,x3,x4)
def zavu:Ann:=⟨[],[],[],zvi,[]⟩
def zavv:=EndD.mk (LQ.map (LQ.kp 0 0 (LQ.kp 1 0 (LQ.kp 3 0 (LQ.kp 3 66 (LQ.k (LQ.kint 0) (LQ.v intP (LQ.v intP (LQ.seq (LP.q zc4) (LQ.kp 2 0 (LQ.seq (LP.q zc4) (LQ.v intP (LQ.v intP (LQ.seq (LP.q bankL) (LQ.seq (LP.q validatorsL) (LQ.seq (LP.q (a4L (a6L (LP.one intP)))) (LQ.k (LQ.c (.own 4)) (LQ.v intP (LQ.k (LQ.c (.own 5)) (LQ.v boolP (LQ.v boolP (LQ.v intP (LQ.k (LQ.c (.own 6)) (LQ.v boolP (LQ.k (LQ.c (.own 7)) (LQ.k (LQ.c (.own 8)) (LQ.k (LQ.c (.own 9)) (LQ.v intP (LQ.v boolP (LQ.v intP (LQ.v intP (LQ.v intP (LQ.v intP (LQ.v boolP (LQ.v boolP (LQ.v intP (LQ.k (LQ.c (.own 10)) (LQ.v boolP (LQ.k (LQ.c (.own 11)) (LQ.k (LQ.c (.own 12)) (LQ.k (LQ.c (.own 13)) (LQ.v intP (LQ.v boolP (LQ.v intP (LQ.v intP (LQ.v intP (LQ.v intP (LQ.seq (LP.q meterL) (LQ.k (LQ.c (.own 14)) (LQ.v zc6 (LQ.v zd (LQ.v zd (LQ.v zt (LQ.v zb6 (LQ.v zt (LQ.v zd (LQ.v zt (LQ.v zb6 (LQ.v zt (Par.q zbe))))))))))))))))))))))))))))))))))))))))))))))))))))))))))) (fun x=>(x.1,x.2.1,x.2.2.1,x.2.2.2.1,(⟨(d4 x).1,(d4 x).2.1,(⟨(d4 x).2.2.1,(d4 x).2.2.2.1,(d8 x).1,(d28 x).2.2.2.1,(d8 x).2.1⟩:Stake),(d32 x).1,(⟨(⟨(d8 x).2.2.1,(d20 x).1⟩:(A2 Bool)),(⟨(d8 x).2.2.2.1,(d20 x).2.1⟩:(A2 Bool)),(⟨(d12 x).1,(d20 x).2.2.1⟩:(A2 Int)),(⟨(d32 x).2.1,(d36 x).2.1⟩:(A2 (List Power))),(⟨(d12 x).2.1,(d20 x).2.2.2.1⟩:(A2 Bool)),(⟨(d32 x).2.2.1,(d36 x).2.2.1⟩:(A2 (List Int))),(⟨(d32 x).2.2.2.1,(d36 x).2.2.2.1⟩:(A2 (List ByteArray))),(⟨(d36 x).1,(d40 x).1⟩:(A2 (List Int))),(⟨(d12 x).2.2.1,(d24 x).1⟩:(A2 Int)),(⟨(d12 x).2.2.2.1,(d24 x).2.1⟩:(A2 Bool)),(⟨(d16 x).1,(d24 x).2.2.1⟩:(A2 Int)),(⟨(d16 x).2.1,(d24 x).2.2.2.1⟩:(A2 Int)),(⟨(d16 x).2.2.1,(d28 x).1⟩:(A2 Int)),(⟨(d16 x).2.2.2.1,(d28 x).2.1⟩:(A2 Int))⟩:Links),(d28 x).2.2.1,(d40 x).2⟩:za))) (fun y=>(y.1,y.2.1,y.2.2.1,y.2.2.2.1,(d4 y).Height,(d4 y).Time,(d4 y).Stake.Bank,(d4 y).Stake.Validators,(d4 y).Stake.Shares,(d4 y).Stake.Next,(d4 y).Links.On.x0,(d4 y).Links.Gone.x0,(d4 y).Links.Base.x0,(d4 y).Links.Fresh.x0,(d4 y).Links.Got.x0,(d4 y).Links.Closed.x0,(d4 y).Links.SHeight.x0,(d4 y).Links.STime.x0,(d4 y).Links.SSaid.x0,(d4 y).Links.SGot.x0,(d4 y).Links.On.x1,(d4 y).Links.Gone.x1,(d4 y).Links.Base.x1,(d4 y).Links.Fresh.x1,(d4 y).Links.Got.x1,(d4 y).Links.Closed.x1,(d4 y).Links.SHeight.x1,(d4 y).Links.STime.x1,(d4 y).Links.SSaid.x1,(d4 y).Links.SGot.x1,(d4 y).Meter,(d4 y).Stake.Waits,(d4 y).Set,(d4 y).Links.Told.x0,(d4 y).Links.Done.x0,(d4 y).Links.Said.x0,(d4 y).Links.Due.x0,(d4 y).Links.Told.x1,(d4 y).Links.Done.x1,(d4 y).Links.Said.x1,(d4 y).Links.Due.x1,(d4 y).Queue)) (fun _=>rfl)) ⟨[0,3,8,12,62,88,89],[.nilcell 8 63 78 (.waits []),.nilcell 8 65 83 (.powers []),.nilcell 8 69 83 (.powers []),.nilcell 8 71 3 (.ints []),.nilcell 8 72 9 (.strs []),.nilcell 8 73 3 (.ints []),.nilcell 8 83 83 (.powers []),.nilcell 8 85 3 (.ints []),.nilcell 8 86 9 (.strs []),.nilcell 8 87 3 (.ints []),.nilcell 8 96 90 (.asked [])]⟩ [.cells 99 159,.cells 25 1,.cells 99 159,.cells 58 97,.rows 78,.rows 83,.rows 83,.rows 3,.rows 9,.rows 3,.rows 83,.rows 3,.rows 9,.rows 3,.rows 90]
def zalf:=EndD.mk (LQ.map (LQ.kp 0 0 (LQ.kp 1 0 (LQ.kp 3 0 (LQ.kp 3 66 (LQ.k (LQ.kint 0) (LQ.seq (LP.q zc4) (LQ.kp 2 0 (LQ.seq (LP.q zc4) (LQ.v intP (LQ.v intP (LQ.seq (LP.q bankL) (LQ.seq (LP.q validatorsL) (LQ.seq (LP.q (a4L (a6L (LP.one intP)))) (LQ.k (LQ.c (.own 4)) (LQ.v intP (LQ.k (LQ.c (.own 5)) (LQ.v boolP (LQ.v boolP (LQ.v intP (LQ.k (LQ.c (.own 6)) (LQ.v boolP (LQ.k (LQ.c (.own 7)) (LQ.k (LQ.c (.own 8)) (LQ.k (LQ.c (.own 9)) (LQ.v intP (LQ.v boolP (LQ.v intP (LQ.v intP (LQ.v intP (LQ.v intP (LQ.v boolP (LQ.v boolP (LQ.v intP (LQ.k (LQ.c (.own 10)) (LQ.v boolP (LQ.k (LQ.c (.own 11)) (LQ.k (LQ.c (.own 12)) (LQ.k (LQ.c (.own 13)) (LQ.v intP (LQ.v boolP (LQ.v intP (LQ.v intP (LQ.v intP (LQ.v intP (LQ.seq (LP.q meterL) (LQ.k (LQ.c (.own 14)) (LQ.v zc6 (LQ.v zd (LQ.v zd (LQ.v zt (LQ.v zb6 (LQ.v zt (LQ.v zd (LQ.v zt (LQ.v zb6 (LQ.v zt (Par.q zbe))))))))))))))))))))))))))))))))))))))))))))))))))))))))) (fun x=>(x.1,x.2.1,(⟨x.2.2.1,x.2.2.2.1,(⟨(d4 x).1,(d4 x).2.1,(d4 x).2.2.1,(d28 x).2.1,(d4 x).2.2.2.1⟩:Stake),(d28 x).2.2.1,(⟨(⟨(d8 x).1,(d16 x).2.2.1⟩:(A2 Bool)),(⟨(d8 x).2.1,(d16 x).2.2.2.1⟩:(A2 Bool)),(⟨(d8 x).2.2.1,(d20 x).1⟩:(A2 Int)),(⟨(d28 x).2.2.2.1,(d32 x).2.2.2.1⟩:(A2 (List Power))),(⟨(d8 x).2.2.2.1,(d20 x).2.1⟩:(A2 Bool)),(⟨(d32 x).1,(d36 x).1⟩:(A2 (List Int))),(⟨(d32 x).2.1,(d36 x).2.1⟩:(A2 (List ByteArray))),(⟨(d32 x).2.2.1,(d36 x).2.2.1⟩:(A2 (List Int))),(⟨(d12 x).1,(d20 x).2.2.1⟩:(A2 Int)),(⟨(d12 x).2.1,(d20 x).2.2.2.1⟩:(A2 Bool)),(⟨(d12 x).2.2.1,(d24 x).1⟩:(A2 Int)),(⟨(d12 x).2.2.2.1,(d24 x).2.1⟩:(A2 Int)),(⟨(d16 x).1,(d24 x).2.2.1⟩:(A2 Int)),(⟨(d16 x).2.1,(d24 x).2.2.2.1⟩:(A2 Int))⟩:Links),(d28 x).1,(d36 x).2.2.2⟩:za))) (fun y=>(y.1,y.2.1,y.2.2.Height,y.2.2.Time,y.2.2.Stake.Bank,y.2.2.Stake.Validators,y.2.2.Stake.Shares,y.2.2.Stake.Next,y.2.2.Links.On.x0,y.2.2.Links.Gone.x0,y.2.2.Links.Base.x0,y.2.2.Links.Fresh.x0,y.2.2.Links.Got.x0,y.2.2.Links.Closed.x0,y.2.2.Links.SHeight.x0,y.2.2.Links.STime.x0,y.2.2.Links.SSaid.x0,y.2.2.Links.SGot.x0,y.2.2.Links.On.x1,y.2.2.Links.Gone.x1,y.2.2.Links.Base.x1,y.2.2.Links.Fresh.x1,y.2.2.Links.Got.x1,y.2.2.Links.Closed.x1,y.2.2.Links.SHeight.x1,y.2.2.Links.STime.x1,y.2.2.Links.SSaid.x1,y.2.2.Links.SGot.x1,y.2.2.Meter,y.2.2.Stake.Waits,y.2.2.Set,y.2.2.Links.Told.x0,y.2.2.Links.Done.x0,y.2.2.Links.Said.x0,y.2.2.Links.Due.x0,y.2.2.Links.Told.x1,y.2.2.Links.Done.x1,y.2.2.Links.Said.x1,y.2.2.Links.Due.x1,y.2.2.Queue)) (fun _=>rfl)) ⟨[0,3,8,12,62],[.nilcell 8 63 78 (.waits []),.nilcell 8 65 83 (.powers []),.nilcell 8 69 83 (.powers []),.nilcell 8 71 3 (.ints []),.nilcell 8 72 9 (.strs []),.nilcell 8 73 3 (.ints []),.nilcell 8 83 83 (.powers []),.nilcell 8 85 3 (.ints []),.nilcell 8 86 9 (.strs []),.nilcell 8 87 3 (.ints []),.nilcell 8 96 90 (.asked [])]⟩ [.cells 99 159,.cells 25 1,.cells 99 159,.cells 58 97,.rows 78,.rows 83,.rows 83,.rows 3,.rows 9,.rows 3,.rows 83,.rows 3,.rows 9,.rows 3,.rows 90]
def zan6:St→Option LR:=L1 218 30 3 zavv (.exit 8) zalf (u5 zda)
def zs141d:=sub (fb Tryz.f20) [0,1,0,1,1,1,0,0,1,1,4,0,1,0,1,1,1,1,1,1]
theorem zavw:zl (zvj).env 3 zs141d zan6 :=
 zd1 (A:=zavu) zvk fM trivial (k:=za5 zs141d) (by kernel_rfl) rfl (by rintro ⟨x0,x1,x2,x3,x4⟩;kernel_rfl)
def zdb (x0 x1:Int) (x2 x3:Wld) (x4:za): Tr ((Int×Int×Wld×Wld×za)⊕(Wld×Wld×za)) :=
 (.ite (decide (x1 < x0))
  (.guard ((0:Int)≤x1∧x1 < ((Sl.len (.strs x4.Links.Said.x0):Nat):Int))
  (.guard ((0:Int)≤x1∧x1 < ((Sl.len (.ints x4.Links.Due.x0):Nat):Int))
  (.leaf (.inl (x0,i64.wrap (x1+1),x2,x3,{ x4 with Links:={ x4.Links with Said:=(⟨x4.Links.Said.x0.set x1.toNat (⟨#[115,112,111,105,108,116]⟩:ByteArray),x4.Links.Said.x1⟩:(A2 (List ByteArray))),Due:=(⟨x4.Links.Due.x0.set x1.toNat (-1),x4.Links.Due.x1⟩:(A2 (List Int))) } })))))
  (.leaf (.inr (x2,x3,x4))))
def zhe (x0 x1:Int) (x2 x3:Wld) (x4:za):=zcv (fun s:Int×Int×Wld×Wld×za=>(zdb s.1 s.2.1 s.2.2.1 s.2.2.2.1 s.2.2.2.2).run) (x0,x1,x2,x3,x4)
def zavx:Ann:=⟨[],[],[],zvi,[]⟩
def zavy:=EndD.mk (LQ.map (LQ.kp 0 0 (LQ.kp 1 0 (LQ.kp 3 0 (LQ.kp 3 66 (LQ.k (LQ.kint 0) (LQ.v intP (LQ.v intP (LQ.seq (LP.q zc4) (LQ.kp 2 0 (LQ.seq (LP.q zc4) (LQ.v intP (LQ.v intP (LQ.seq (LP.q bankL) (LQ.seq (LP.q validatorsL) (LQ.seq (LP.q (a4L (a6L (LP.one intP)))) (LQ.k (LQ.c (.own 4)) (LQ.v intP (LQ.k (LQ.c (.own 5)) (LQ.v boolP (LQ.v boolP (LQ.v intP (LQ.k (LQ.c (.own 6)) (LQ.v boolP (LQ.k (LQ.c (.own 7)) (LQ.k (LQ.c (.own 8)) (LQ.k (LQ.c (.own 9)) (LQ.v intP (LQ.v boolP (LQ.v intP (LQ.v intP (LQ.v intP (LQ.v intP (LQ.v boolP (LQ.v boolP (LQ.v intP (LQ.k (LQ.c (.own 10)) (LQ.v boolP (LQ.k (LQ.c (.own 11)) (LQ.k (LQ.c (.own 12)) (LQ.k (LQ.c (.own 13)) (LQ.v intP (LQ.v boolP (LQ.v intP (LQ.v intP (LQ.v intP (LQ.v intP (LQ.seq (LP.q meterL) (LQ.k (LQ.c (.own 14)) (LQ.v zc6 (LQ.v zd (LQ.v zd (LQ.v zt (LQ.v zb6 (LQ.v zt (LQ.v zd (LQ.v zt (LQ.v zb6 (LQ.v zt (Par.q zbe))))))))))))))))))))))))))))))))))))))))))))))))))))))))))) (fun x=>(x.1,x.2.1,x.2.2.1,x.2.2.2.1,(⟨(d4 x).1,(d4 x).2.1,(⟨(d4 x).2.2.1,(d4 x).2.2.2.1,(d8 x).1,(d28 x).2.2.2.1,(d8 x).2.1⟩:Stake),(d32 x).1,(⟨(⟨(d8 x).2.2.1,(d20 x).1⟩:(A2 Bool)),(⟨(d8 x).2.2.2.1,(d20 x).2.1⟩:(A2 Bool)),(⟨(d12 x).1,(d20 x).2.2.1⟩:(A2 Int)),(⟨(d32 x).2.1,(d36 x).2.1⟩:(A2 (List Power))),(⟨(d12 x).2.1,(d20 x).2.2.2.1⟩:(A2 Bool)),(⟨(d32 x).2.2.1,(d36 x).2.2.1⟩:(A2 (List Int))),(⟨(d32 x).2.2.2.1,(d36 x).2.2.2.1⟩:(A2 (List ByteArray))),(⟨(d36 x).1,(d40 x).1⟩:(A2 (List Int))),(⟨(d12 x).2.2.1,(d24 x).1⟩:(A2 Int)),(⟨(d12 x).2.2.2.1,(d24 x).2.1⟩:(A2 Bool)),(⟨(d16 x).1,(d24 x).2.2.1⟩:(A2 Int)),(⟨(d16 x).2.1,(d24 x).2.2.2.1⟩:(A2 Int)),(⟨(d16 x).2.2.1,(d28 x).1⟩:(A2 Int)),(⟨(d16 x).2.2.2.1,(d28 x).2.1⟩:(A2 Int))⟩:Links),(d28 x).2.2.1,(d40 x).2⟩:za))) (fun y=>(y.1,y.2.1,y.2.2.1,y.2.2.2.1,(d4 y).Height,(d4 y).Time,(d4 y).Stake.Bank,(d4 y).Stake.Validators,(d4 y).Stake.Shares,(d4 y).Stake.Next,(d4 y).Links.On.x0,(d4 y).Links.Gone.x0,(d4 y).Links.Base.x0,(d4 y).Links.Fresh.x0,(d4 y).Links.Got.x0,(d4 y).Links.Closed.x0,(d4 y).Links.SHeight.x0,(d4 y).Links.STime.x0,(d4 y).Links.SSaid.x0,(d4 y).Links.SGot.x0,(d4 y).Links.On.x1,(d4 y).Links.Gone.x1,(d4 y).Links.Base.x1,(d4 y).Links.Fresh.x1,(d4 y).Links.Got.x1,(d4 y).Links.Closed.x1,(d4 y).Links.SHeight.x1,(d4 y).Links.STime.x1,(d4 y).Links.SSaid.x1,(d4 y).Links.SGot.x1,(d4 y).Meter,(d4 y).Stake.Waits,(d4 y).Set,(d4 y).Links.Told.x0,(d4 y).Links.Done.x0,(d4 y).Links.Said.x0,(d4 y).Links.Due.x0,(d4 y).Links.Told.x1,(d4 y).Links.Done.x1,(d4 y).Links.Said.x1,(d4 y).Links.Due.x1,(d4 y).Queue)) (fun _=>rfl)) ⟨[0,3,8,12,62,104,105],[.nilcell 8 63 78 (.waits []),.nilcell 8 65 83 (.powers []),.nilcell 8 69 83 (.powers []),.nilcell 8 71 3 (.ints []),.nilcell 8 72 9 (.strs []),.nilcell 8 73 3 (.ints []),.nilcell 8 83 83 (.powers []),.nilcell 8 85 3 (.ints []),.nilcell 8 86 9 (.strs []),.nilcell 8 87 3 (.ints []),.nilcell 8 96 90 (.asked [])]⟩ [.cells 99 159,.cells 25 1,.cells 99 159,.cells 58 97,.rows 78,.rows 83,.rows 83,.rows 3,.rows 9,.rows 3,.rows 83,.rows 3,.rows 9,.rows 3,.rows 90]
def zalg:=EndD.mk (LQ.map (LQ.kp 0 0 (LQ.kp 1 0 (LQ.kp 3 0 (LQ.k (LQ.kint 0) (LQ.seq (LP.q zc4) (LQ.kp 2 0 (LQ.seq (LP.q zc4) (LQ.v intP (LQ.v intP (LQ.seq (LP.q bankL) (LQ.seq (LP.q validatorsL) (LQ.seq (LP.q (a4L (a6L (LP.one intP)))) (LQ.k (LQ.c (.own 4)) (LQ.v intP (LQ.k (LQ.c (.own 5)) (LQ.v boolP (LQ.v boolP (LQ.v intP (LQ.k (LQ.c (.own 6)) (LQ.v boolP (LQ.k (LQ.c (.own 7)) (LQ.k (LQ.c (.own 8)) (LQ.k (LQ.c (.own 9)) (LQ.v intP (LQ.v boolP (LQ.v intP (LQ.v intP (LQ.v intP (LQ.v intP (LQ.v boolP (LQ.v boolP (LQ.v intP (LQ.k (LQ.c (.own 10)) (LQ.v boolP (LQ.k (LQ.c (.own 11)) (LQ.k (LQ.c (.own 12)) (LQ.k (LQ.c (.own 13)) (LQ.v intP (LQ.v boolP (LQ.v intP (LQ.v intP (LQ.v intP (LQ.v intP (LQ.seq (LP.q meterL) (LQ.k (LQ.c (.own 14)) (LQ.v zc6 (LQ.v zd (LQ.v zd (LQ.v zt (LQ.v zb6 (LQ.v zt (LQ.v zd (LQ.v zt (LQ.v zb6 (LQ.v zt (Par.q zbe)))))))))))))))))))))))))))))))))))))))))))))))))))))))) (fun x=>(x.1,x.2.1,(⟨x.2.2.1,x.2.2.2.1,(⟨(d4 x).1,(d4 x).2.1,(d4 x).2.2.1,(d28 x).2.1,(d4 x).2.2.2.1⟩:Stake),(d28 x).2.2.1,(⟨(⟨(d8 x).1,(d16 x).2.2.1⟩:(A2 Bool)),(⟨(d8 x).2.1,(d16 x).2.2.2.1⟩:(A2 Bool)),(⟨(d8 x).2.2.1,(d20 x).1⟩:(A2 Int)),(⟨(d28 x).2.2.2.1,(d32 x).2.2.2.1⟩:(A2 (List Power))),(⟨(d8 x).2.2.2.1,(d20 x).2.1⟩:(A2 Bool)),(⟨(d32 x).1,(d36 x).1⟩:(A2 (List Int))),(⟨(d32 x).2.1,(d36 x).2.1⟩:(A2 (List ByteArray))),(⟨(d32 x).2.2.1,(d36 x).2.2.1⟩:(A2 (List Int))),(⟨(d12 x).1,(d20 x).2.2.1⟩:(A2 Int)),(⟨(d12 x).2.1,(d20 x).2.2.2.1⟩:(A2 Bool)),(⟨(d12 x).2.2.1,(d24 x).1⟩:(A2 Int)),(⟨(d12 x).2.2.2.1,(d24 x).2.1⟩:(A2 Int)),(⟨(d16 x).1,(d24 x).2.2.1⟩:(A2 Int)),(⟨(d16 x).2.1,(d24 x).2.2.2.1⟩:(A2 Int))⟩:Links),(d28 x).1,(d36 x).2.2.2⟩:za))) (fun y=>(y.1,y.2.1,y.2.2.Height,y.2.2.Time,y.2.2.Stake.Bank,y.2.2.Stake.Validators,y.2.2.Stake.Shares,y.2.2.Stake.Next,y.2.2.Links.On.x0,y.2.2.Links.Gone.x0,y.2.2.Links.Base.x0,y.2.2.Links.Fresh.x0,y.2.2.Links.Got.x0,y.2.2.Links.Closed.x0,y.2.2.Links.SHeight.x0,y.2.2.Links.STime.x0,y.2.2.Links.SSaid.x0,y.2.2.Links.SGot.x0,y.2.2.Links.On.x1,y.2.2.Links.Gone.x1,y.2.2.Links.Base.x1,y.2.2.Links.Fresh.x1,y.2.2.Links.Got.x1,y.2.2.Links.Closed.x1,y.2.2.Links.SHeight.x1,y.2.2.Links.STime.x1,y.2.2.Links.SSaid.x1,y.2.2.Links.SGot.x1,y.2.2.Meter,y.2.2.Stake.Waits,y.2.2.Set,y.2.2.Links.Told.x0,y.2.2.Links.Done.x0,y.2.2.Links.Said.x0,y.2.2.Links.Due.x0,y.2.2.Links.Told.x1,y.2.2.Links.Done.x1,y.2.2.Links.Said.x1,y.2.2.Links.Due.x1,y.2.2.Queue)) (fun _=>rfl)) ⟨[0,3,8,62],[.nilcell 8 63 78 (.waits []),.nilcell 8 65 83 (.powers []),.nilcell 8 69 83 (.powers []),.nilcell 8 71 3 (.ints []),.nilcell 8 72 9 (.strs []),.nilcell 8 73 3 (.ints []),.nilcell 8 83 83 (.powers []),.nilcell 8 85 3 (.ints []),.nilcell 8 86 9 (.strs []),.nilcell 8 87 3 (.ints []),.nilcell 8 96 90 (.asked [])]⟩ [.cells 99 159,.cells 25 1,.cells 99 159,.cells 58 97,.rows 78,.rows 83,.rows 83,.rows 3,.rows 9,.rows 3,.rows 83,.rows 3,.rows 9,.rows 3,.rows 90]
def zan7:St→Option LR:=L1 218 30 3 zavy (.exit 10) zalg (u5 zdb)
def zs141e:=sub (fb Tryz.f20) [0,1,1,1,1,1,0,0,1,1,4,0,1,0,1,1,1,1,1,1]
theorem zavz:zl (zvj).env 3 zs141e zan7 :=
 zd1 (A:=zavx) zvk fM trivial (k:=za5 zs141e) (by kernel_rfl) rfl (by rintro ⟨x0,x1,x2,x3,x4⟩;kernel_rfl)
def zdc (x0 x1:Int) (x2 x3:Wld) (x4:za): Tr ((Int×Int×Wld×Wld×za)⊕(Wld×Wld×za)) :=
 (.ite (decide (x1 < x0))
  (.guard ((0:Int)≤x1∧x1 < ((Sl.len (.powers x4.Links.Told.x1):Nat):Int))
  (.leaf (.inl (x0,i64.wrap (x1+1),x2,x3,{ x4 with Links:={ x4.Links with Told:=(⟨x4.Links.Told.x0,x4.Links.Told.x1.set x1.toNat (⟨(x4.Links.Told.x1.getD x1.toNat default).V,-1⟩:Power)⟩:(A2 (List Power))) } }))))
  (.leaf (.inr (x2,x3,x4))))
def zhf (x0 x1:Int) (x2 x3:Wld) (x4:za):=zcv (fun s:Int×Int×Wld×Wld×za=>(zdc s.1 s.2.1 s.2.2.1 s.2.2.2.1 s.2.2.2.2).run) (x0,x1,x2,x3,x4)
def zav0:Ann:=⟨[],[],[],zvi,[]⟩
def zav1:=EndD.mk (LQ.map (LQ.kp 0 0 (LQ.kp 1 0 (LQ.kp 3 0 (LQ.kp 3 80 (LQ.k (LQ.kint 1) (LQ.v intP (LQ.v intP (LQ.seq (LP.q zc4) (LQ.kp 2 0 (LQ.seq (LP.q zc4) (LQ.v intP (LQ.v intP (LQ.seq (LP.q bankL) (LQ.seq (LP.q validatorsL) (LQ.seq (LP.q (a4L (a6L (LP.one intP)))) (LQ.k (LQ.c (.own 4)) (LQ.v intP (LQ.k (LQ.c (.own 5)) (LQ.v boolP (LQ.v boolP (LQ.v intP (LQ.k (LQ.c (.own 6)) (LQ.v boolP (LQ.k (LQ.c (.own 7)) (LQ.k (LQ.c (.own 8)) (LQ.k (LQ.c (.own 9)) (LQ.v intP (LQ.v boolP (LQ.v intP (LQ.v intP (LQ.v intP (LQ.v intP (LQ.v boolP (LQ.v boolP (LQ.v intP (LQ.k (LQ.c (.own 10)) (LQ.v boolP (LQ.k (LQ.c (.own 11)) (LQ.k (LQ.c (.own 12)) (LQ.k (LQ.c (.own 13)) (LQ.v intP (LQ.v boolP (LQ.v intP (LQ.v intP (LQ.v intP (LQ.v intP (LQ.seq (LP.q meterL) (LQ.k (LQ.c (.own 14)) (LQ.v zc6 (LQ.v zd (LQ.v zd (LQ.v zt (LQ.v zb6 (LQ.v zt (LQ.v zd (LQ.v zt (LQ.v zb6 (LQ.v zt (Par.q zbe))))))))))))))))))))))))))))))))))))))))))))))))))))))))))) (fun x=>(x.1,x.2.1,x.2.2.1,x.2.2.2.1,(⟨(d4 x).1,(d4 x).2.1,(⟨(d4 x).2.2.1,(d4 x).2.2.2.1,(d8 x).1,(d28 x).2.2.2.1,(d8 x).2.1⟩:Stake),(d32 x).1,(⟨(⟨(d8 x).2.2.1,(d20 x).1⟩:(A2 Bool)),(⟨(d8 x).2.2.2.1,(d20 x).2.1⟩:(A2 Bool)),(⟨(d12 x).1,(d20 x).2.2.1⟩:(A2 Int)),(⟨(d32 x).2.1,(d36 x).2.1⟩:(A2 (List Power))),(⟨(d12 x).2.1,(d20 x).2.2.2.1⟩:(A2 Bool)),(⟨(d32 x).2.2.1,(d36 x).2.2.1⟩:(A2 (List Int))),(⟨(d32 x).2.2.2.1,(d36 x).2.2.2.1⟩:(A2 (List ByteArray))),(⟨(d36 x).1,(d40 x).1⟩:(A2 (List Int))),(⟨(d12 x).2.2.1,(d24 x).1⟩:(A2 Int)),(⟨(d12 x).2.2.2.1,(d24 x).2.1⟩:(A2 Bool)),(⟨(d16 x).1,(d24 x).2.2.1⟩:(A2 Int)),(⟨(d16 x).2.1,(d24 x).2.2.2.1⟩:(A2 Int)),(⟨(d16 x).2.2.1,(d28 x).1⟩:(A2 Int)),(⟨(d16 x).2.2.2.1,(d28 x).2.1⟩:(A2 Int))⟩:Links),(d28 x).2.2.1,(d40 x).2⟩:za))) (fun y=>(y.1,y.2.1,y.2.2.1,y.2.2.2.1,(d4 y).Height,(d4 y).Time,(d4 y).Stake.Bank,(d4 y).Stake.Validators,(d4 y).Stake.Shares,(d4 y).Stake.Next,(d4 y).Links.On.x0,(d4 y).Links.Gone.x0,(d4 y).Links.Base.x0,(d4 y).Links.Fresh.x0,(d4 y).Links.Got.x0,(d4 y).Links.Closed.x0,(d4 y).Links.SHeight.x0,(d4 y).Links.STime.x0,(d4 y).Links.SSaid.x0,(d4 y).Links.SGot.x0,(d4 y).Links.On.x1,(d4 y).Links.Gone.x1,(d4 y).Links.Base.x1,(d4 y).Links.Fresh.x1,(d4 y).Links.Got.x1,(d4 y).Links.Closed.x1,(d4 y).Links.SHeight.x1,(d4 y).Links.STime.x1,(d4 y).Links.SSaid.x1,(d4 y).Links.SGot.x1,(d4 y).Meter,(d4 y).Stake.Waits,(d4 y).Set,(d4 y).Links.Told.x0,(d4 y).Links.Done.x0,(d4 y).Links.Said.x0,(d4 y).Links.Due.x0,(d4 y).Links.Told.x1,(d4 y).Links.Done.x1,(d4 y).Links.Said.x1,(d4 y).Links.Due.x1,(d4 y).Queue)) (fun _=>rfl)) ⟨[0,3,8,12,62,72,73],[.nilcell 8 63 78 (.waits []),.nilcell 8 65 83 (.powers []),.nilcell 8 69 83 (.powers []),.nilcell 8 71 3 (.ints []),.nilcell 8 72 9 (.strs []),.nilcell 8 73 3 (.ints []),.nilcell 8 83 83 (.powers []),.nilcell 8 85 3 (.ints []),.nilcell 8 86 9 (.strs []),.nilcell 8 87 3 (.ints []),.nilcell 8 96 90 (.asked [])]⟩ [.cells 99 159,.cells 25 1,.cells 99 159,.cells 58 97,.rows 78,.rows 83,.rows 83,.rows 3,.rows 9,.rows 3,.rows 83,.rows 3,.rows 9,.rows 3,.rows 90]
def zalh:=EndD.mk (LQ.map (LQ.kp 0 0 (LQ.kp 1 0 (LQ.kp 3 0 (LQ.kp 3 80 (LQ.k (LQ.kint 1) (LQ.seq (LP.q zc4) (LQ.kp 2 0 (LQ.seq (LP.q zc4) (LQ.v intP (LQ.v intP (LQ.seq (LP.q bankL) (LQ.seq (LP.q validatorsL) (LQ.seq (LP.q (a4L (a6L (LP.one intP)))) (LQ.k (LQ.c (.own 4)) (LQ.v intP (LQ.k (LQ.c (.own 5)) (LQ.v boolP (LQ.v boolP (LQ.v intP (LQ.k (LQ.c (.own 6)) (LQ.v boolP (LQ.k (LQ.c (.own 7)) (LQ.k (LQ.c (.own 8)) (LQ.k (LQ.c (.own 9)) (LQ.v intP (LQ.v boolP (LQ.v intP (LQ.v intP (LQ.v intP (LQ.v intP (LQ.v boolP (LQ.v boolP (LQ.v intP (LQ.k (LQ.c (.own 10)) (LQ.v boolP (LQ.k (LQ.c (.own 11)) (LQ.k (LQ.c (.own 12)) (LQ.k (LQ.c (.own 13)) (LQ.v intP (LQ.v boolP (LQ.v intP (LQ.v intP (LQ.v intP (LQ.v intP (LQ.seq (LP.q meterL) (LQ.k (LQ.c (.own 14)) (LQ.v zc6 (LQ.v zd (LQ.v zd (LQ.v zt (LQ.v zb6 (LQ.v zt (LQ.v zd (LQ.v zt (LQ.v zb6 (LQ.v zt (Par.q zbe))))))))))))))))))))))))))))))))))))))))))))))))))))))))) (fun x=>(x.1,x.2.1,(⟨x.2.2.1,x.2.2.2.1,(⟨(d4 x).1,(d4 x).2.1,(d4 x).2.2.1,(d28 x).2.1,(d4 x).2.2.2.1⟩:Stake),(d28 x).2.2.1,(⟨(⟨(d8 x).1,(d16 x).2.2.1⟩:(A2 Bool)),(⟨(d8 x).2.1,(d16 x).2.2.2.1⟩:(A2 Bool)),(⟨(d8 x).2.2.1,(d20 x).1⟩:(A2 Int)),(⟨(d28 x).2.2.2.1,(d32 x).2.2.2.1⟩:(A2 (List Power))),(⟨(d8 x).2.2.2.1,(d20 x).2.1⟩:(A2 Bool)),(⟨(d32 x).1,(d36 x).1⟩:(A2 (List Int))),(⟨(d32 x).2.1,(d36 x).2.1⟩:(A2 (List ByteArray))),(⟨(d32 x).2.2.1,(d36 x).2.2.1⟩:(A2 (List Int))),(⟨(d12 x).1,(d20 x).2.2.1⟩:(A2 Int)),(⟨(d12 x).2.1,(d20 x).2.2.2.1⟩:(A2 Bool)),(⟨(d12 x).2.2.1,(d24 x).1⟩:(A2 Int)),(⟨(d12 x).2.2.2.1,(d24 x).2.1⟩:(A2 Int)),(⟨(d16 x).1,(d24 x).2.2.1⟩:(A2 Int)),(⟨(d16 x).2.1,(d24 x).2.2.2.1⟩:(A2 Int))⟩:Links),(d28 x).1,(d36 x).2.2.2⟩:za))) (fun y=>(y.1,y.2.1,y.2.2.Height,y.2.2.Time,y.2.2.Stake.Bank,y.2.2.Stake.Validators,y.2.2.Stake.Shares,y.2.2.Stake.Next,y.2.2.Links.On.x0,y.2.2.Links.Gone.x0,y.2.2.Links.Base.x0,y.2.2.Links.Fresh.x0,y.2.2.Links.Got.x0,y.2.2.Links.Closed.x0,y.2.2.Links.SHeight.x0,y.2.2.Links.STime.x0,y.2.2.Links.SSaid.x0,y.2.2.Links.SGot.x0,y.2.2.Links.On.x1,y.2.2.Links.Gone.x1,y.2.2.Links.Base.x1,y.2.2.Links.Fresh.x1,y.2.2.Links.Got.x1,y.2.2.Links.Closed.x1,y.2.2.Links.SHeight.x1,y.2.2.Links.STime.x1,y.2.2.Links.SSaid.x1,y.2.2.Links.SGot.x1,y.2.2.Meter,y.2.2.Stake.Waits,y.2.2.Set,y.2.2.Links.Told.x0,y.2.2.Links.Done.x0,y.2.2.Links.Said.x0,y.2.2.Links.Due.x0,y.2.2.Links.Told.x1,y.2.2.Links.Done.x1,y.2.2.Links.Said.x1,y.2.2.Links.Due.x1,y.2.2.Queue)) (fun _=>rfl)) ⟨[0,3,8,12,62],[.nilcell 8 63 78 (.waits []),.nilcell 8 65 83 (.powers []),.nilcell 8 69 83 (.powers []),.nilcell 8 71 3 (.ints []),.nilcell 8 72 9 (.strs []),.nilcell 8 73 3 (.ints []),.nilcell 8 83 83 (.powers []),.nilcell 8 85 3 (.ints []),.nilcell 8 86 9 (.strs []),.nilcell 8 87 3 (.ints []),.nilcell 8 96 90 (.asked [])]⟩ [.cells 99 159,.cells 25 1,.cells 99 159,.cells 58 97,.rows 78,.rows 83,.rows 83,.rows 3,.rows 9,.rows 3,.rows 83,.rows 3,.rows 9,.rows 3,.rows 90]
def zan8:St→Option LR:=L1 218 30 3 zav1 (.exit 6) zalh (u5 zdc)
def zs141f:=sub (fb Tryz.f20) [0,1,0,1,1,0,0,1,1,3,0,1,0,1,1,1,1,1,1]
theorem zav2:zl (zvj).env 3 zs141f zan8 :=
 zd1 (A:=zav0) zvk fM trivial (k:=za5 zs141f) (by kernel_rfl) rfl (by rintro ⟨x0,x1,x2,x3,x4⟩;kernel_rfl)
def zdd (x0 x1:Int) (x2 x3:Wld) (x4:za): Tr ((Int×Int×Wld×Wld×za)⊕(Wld×Wld×za)) :=
 (.ite (decide (x1 < x0))
  (.guard ((0:Int)≤x1∧x1 < ((Sl.len (.ints x4.Links.Done.x1):Nat):Int))
  (.leaf (.inl (x0,i64.wrap (x1+1),x2,x3,{ x4 with Links:={ x4.Links with Done:=(⟨x4.Links.Done.x0,x4.Links.Done.x1.set x1.toNat (-1)⟩:(A2 (List Int))) } }))))
  (.leaf (.inr (x2,x3,x4))))
def zhg (x0 x1:Int) (x2 x3:Wld) (x4:za):=zcv (fun s:Int×Int×Wld×Wld×za=>(zdd s.1 s.2.1 s.2.2.1 s.2.2.2.1 s.2.2.2.2).run) (x0,x1,x2,x3,x4)
def zav3:Ann:=⟨[],[],[],zvi,[]⟩
def zav4:=EndD.mk (LQ.map (LQ.kp 0 0 (LQ.kp 1 0 (LQ.kp 3 0 (LQ.kp 3 80 (LQ.k (LQ.kint 1) (LQ.v intP (LQ.v intP (LQ.seq (LP.q zc4) (LQ.kp 2 0 (LQ.seq (LP.q zc4) (LQ.v intP (LQ.v intP (LQ.seq (LP.q bankL) (LQ.seq (LP.q validatorsL) (LQ.seq (LP.q (a4L (a6L (LP.one intP)))) (LQ.k (LQ.c (.own 4)) (LQ.v intP (LQ.k (LQ.c (.own 5)) (LQ.v boolP (LQ.v boolP (LQ.v intP (LQ.k (LQ.c (.own 6)) (LQ.v boolP (LQ.k (LQ.c (.own 7)) (LQ.k (LQ.c (.own 8)) (LQ.k (LQ.c (.own 9)) (LQ.v intP (LQ.v boolP (LQ.v intP (LQ.v intP (LQ.v intP (LQ.v intP (LQ.v boolP (LQ.v boolP (LQ.v intP (LQ.k (LQ.c (.own 10)) (LQ.v boolP (LQ.k (LQ.c (.own 11)) (LQ.k (LQ.c (.own 12)) (LQ.k (LQ.c (.own 13)) (LQ.v intP (LQ.v boolP (LQ.v intP (LQ.v intP (LQ.v intP (LQ.v intP (LQ.seq (LP.q meterL) (LQ.k (LQ.c (.own 14)) (LQ.v zc6 (LQ.v zd (LQ.v zd (LQ.v zt (LQ.v zb6 (LQ.v zt (LQ.v zd (LQ.v zt (LQ.v zb6 (LQ.v zt (Par.q zbe))))))))))))))))))))))))))))))))))))))))))))))))))))))))))) (fun x=>(x.1,x.2.1,x.2.2.1,x.2.2.2.1,(⟨(d4 x).1,(d4 x).2.1,(⟨(d4 x).2.2.1,(d4 x).2.2.2.1,(d8 x).1,(d28 x).2.2.2.1,(d8 x).2.1⟩:Stake),(d32 x).1,(⟨(⟨(d8 x).2.2.1,(d20 x).1⟩:(A2 Bool)),(⟨(d8 x).2.2.2.1,(d20 x).2.1⟩:(A2 Bool)),(⟨(d12 x).1,(d20 x).2.2.1⟩:(A2 Int)),(⟨(d32 x).2.1,(d36 x).2.1⟩:(A2 (List Power))),(⟨(d12 x).2.1,(d20 x).2.2.2.1⟩:(A2 Bool)),(⟨(d32 x).2.2.1,(d36 x).2.2.1⟩:(A2 (List Int))),(⟨(d32 x).2.2.2.1,(d36 x).2.2.2.1⟩:(A2 (List ByteArray))),(⟨(d36 x).1,(d40 x).1⟩:(A2 (List Int))),(⟨(d12 x).2.2.1,(d24 x).1⟩:(A2 Int)),(⟨(d12 x).2.2.2.1,(d24 x).2.1⟩:(A2 Bool)),(⟨(d16 x).1,(d24 x).2.2.1⟩:(A2 Int)),(⟨(d16 x).2.1,(d24 x).2.2.2.1⟩:(A2 Int)),(⟨(d16 x).2.2.1,(d28 x).1⟩:(A2 Int)),(⟨(d16 x).2.2.2.1,(d28 x).2.1⟩:(A2 Int))⟩:Links),(d28 x).2.2.1,(d40 x).2⟩:za))) (fun y=>(y.1,y.2.1,y.2.2.1,y.2.2.2.1,(d4 y).Height,(d4 y).Time,(d4 y).Stake.Bank,(d4 y).Stake.Validators,(d4 y).Stake.Shares,(d4 y).Stake.Next,(d4 y).Links.On.x0,(d4 y).Links.Gone.x0,(d4 y).Links.Base.x0,(d4 y).Links.Fresh.x0,(d4 y).Links.Got.x0,(d4 y).Links.Closed.x0,(d4 y).Links.SHeight.x0,(d4 y).Links.STime.x0,(d4 y).Links.SSaid.x0,(d4 y).Links.SGot.x0,(d4 y).Links.On.x1,(d4 y).Links.Gone.x1,(d4 y).Links.Base.x1,(d4 y).Links.Fresh.x1,(d4 y).Links.Got.x1,(d4 y).Links.Closed.x1,(d4 y).Links.SHeight.x1,(d4 y).Links.STime.x1,(d4 y).Links.SSaid.x1,(d4 y).Links.SGot.x1,(d4 y).Meter,(d4 y).Stake.Waits,(d4 y).Set,(d4 y).Links.Told.x0,(d4 y).Links.Done.x0,(d4 y).Links.Said.x0,(d4 y).Links.Due.x0,(d4 y).Links.Told.x1,(d4 y).Links.Done.x1,(d4 y).Links.Said.x1,(d4 y).Links.Due.x1,(d4 y).Queue)) (fun _=>rfl)) ⟨[0,3,8,12,62,88,89],[.nilcell 8 63 78 (.waits []),.nilcell 8 65 83 (.powers []),.nilcell 8 69 83 (.powers []),.nilcell 8 71 3 (.ints []),.nilcell 8 72 9 (.strs []),.nilcell 8 73 3 (.ints []),.nilcell 8 83 83 (.powers []),.nilcell 8 85 3 (.ints []),.nilcell 8 86 9 (.strs []),.nilcell 8 87 3 (.ints []),.nilcell 8 96 90 (.asked [])]⟩ [.cells 99 159,.cells 25 1,.cells 99 159,.cells 58 97,.rows 78,.rows 83,.rows 83,.rows 3,.rows 9,.rows 3,.rows 83,.rows 3,.rows 9,.rows 3,.rows 90]
def zali:=EndD.mk (LQ.map (LQ.kp 0 0 (LQ.kp 1 0 (LQ.kp 3 0 (LQ.kp 3 80 (LQ.k (LQ.kint 1) (LQ.seq (LP.q zc4) (LQ.kp 2 0 (LQ.seq (LP.q zc4) (LQ.v intP (LQ.v intP (LQ.seq (LP.q bankL) (LQ.seq (LP.q validatorsL) (LQ.seq (LP.q (a4L (a6L (LP.one intP)))) (LQ.k (LQ.c (.own 4)) (LQ.v intP (LQ.k (LQ.c (.own 5)) (LQ.v boolP (LQ.v boolP (LQ.v intP (LQ.k (LQ.c (.own 6)) (LQ.v boolP (LQ.k (LQ.c (.own 7)) (LQ.k (LQ.c (.own 8)) (LQ.k (LQ.c (.own 9)) (LQ.v intP (LQ.v boolP (LQ.v intP (LQ.v intP (LQ.v intP (LQ.v intP (LQ.v boolP (LQ.v boolP (LQ.v intP (LQ.k (LQ.c (.own 10)) (LQ.v boolP (LQ.k (LQ.c (.own 11)) (LQ.k (LQ.c (.own 12)) (LQ.k (LQ.c (.own 13)) (LQ.v intP (LQ.v boolP (LQ.v intP (LQ.v intP (LQ.v intP (LQ.v intP (LQ.seq (LP.q meterL) (LQ.k (LQ.c (.own 14)) (LQ.v zc6 (LQ.v zd (LQ.v zd (LQ.v zt (LQ.v zb6 (LQ.v zt (LQ.v zd (LQ.v zt (LQ.v zb6 (LQ.v zt (Par.q zbe))))))))))))))))))))))))))))))))))))))))))))))))))))))))) (fun x=>(x.1,x.2.1,(⟨x.2.2.1,x.2.2.2.1,(⟨(d4 x).1,(d4 x).2.1,(d4 x).2.2.1,(d28 x).2.1,(d4 x).2.2.2.1⟩:Stake),(d28 x).2.2.1,(⟨(⟨(d8 x).1,(d16 x).2.2.1⟩:(A2 Bool)),(⟨(d8 x).2.1,(d16 x).2.2.2.1⟩:(A2 Bool)),(⟨(d8 x).2.2.1,(d20 x).1⟩:(A2 Int)),(⟨(d28 x).2.2.2.1,(d32 x).2.2.2.1⟩:(A2 (List Power))),(⟨(d8 x).2.2.2.1,(d20 x).2.1⟩:(A2 Bool)),(⟨(d32 x).1,(d36 x).1⟩:(A2 (List Int))),(⟨(d32 x).2.1,(d36 x).2.1⟩:(A2 (List ByteArray))),(⟨(d32 x).2.2.1,(d36 x).2.2.1⟩:(A2 (List Int))),(⟨(d12 x).1,(d20 x).2.2.1⟩:(A2 Int)),(⟨(d12 x).2.1,(d20 x).2.2.2.1⟩:(A2 Bool)),(⟨(d12 x).2.2.1,(d24 x).1⟩:(A2 Int)),(⟨(d12 x).2.2.2.1,(d24 x).2.1⟩:(A2 Int)),(⟨(d16 x).1,(d24 x).2.2.1⟩:(A2 Int)),(⟨(d16 x).2.1,(d24 x).2.2.2.1⟩:(A2 Int))⟩:Links),(d28 x).1,(d36 x).2.2.2⟩:za))) (fun y=>(y.1,y.2.1,y.2.2.Height,y.2.2.Time,y.2.2.Stake.Bank,y.2.2.Stake.Validators,y.2.2.Stake.Shares,y.2.2.Stake.Next,y.2.2.Links.On.x0,y.2.2.Links.Gone.x0,y.2.2.Links.Base.x0,y.2.2.Links.Fresh.x0,y.2.2.Links.Got.x0,y.2.2.Links.Closed.x0,y.2.2.Links.SHeight.x0,y.2.2.Links.STime.x0,y.2.2.Links.SSaid.x0,y.2.2.Links.SGot.x0,y.2.2.Links.On.x1,y.2.2.Links.Gone.x1,y.2.2.Links.Base.x1,y.2.2.Links.Fresh.x1,y.2.2.Links.Got.x1,y.2.2.Links.Closed.x1,y.2.2.Links.SHeight.x1,y.2.2.Links.STime.x1,y.2.2.Links.SSaid.x1,y.2.2.Links.SGot.x1,y.2.2.Meter,y.2.2.Stake.Waits,y.2.2.Set,y.2.2.Links.Told.x0,y.2.2.Links.Done.x0,y.2.2.Links.Said.x0,y.2.2.Links.Due.x0,y.2.2.Links.Told.x1,y.2.2.Links.Done.x1,y.2.2.Links.Said.x1,y.2.2.Links.Due.x1,y.2.2.Queue)) (fun _=>rfl)) ⟨[0,3,8,12,62],[.nilcell 8 63 78 (.waits []),.nilcell 8 65 83 (.powers []),.nilcell 8 69 83 (.powers []),.nilcell 8 71 3 (.ints []),.nilcell 8 72 9 (.strs []),.nilcell 8 73 3 (.ints []),.nilcell 8 83 83 (.powers []),.nilcell 8 85 3 (.ints []),.nilcell 8 86 9 (.strs []),.nilcell 8 87 3 (.ints []),.nilcell 8 96 90 (.asked [])]⟩ [.cells 99 159,.cells 25 1,.cells 99 159,.cells 58 97,.rows 78,.rows 83,.rows 83,.rows 3,.rows 9,.rows 3,.rows 83,.rows 3,.rows 9,.rows 3,.rows 90]
def zan9:St→Option LR:=L1 218 30 3 zav4 (.exit 8) zali (u5 zdd)
def zs141g:=sub (fb Tryz.f20) [0,1,0,1,1,1,0,0,1,1,3,0,1,0,1,1,1,1,1,1]
theorem zav5:zl (zvj).env 3 zs141g zan9 :=
 zd1 (A:=zav3) zvk fM trivial (k:=za5 zs141g) (by kernel_rfl) rfl (by rintro ⟨x0,x1,x2,x3,x4⟩;kernel_rfl)
def zde (x0 x1:Int) (x2 x3:Wld) (x4:za): Tr ((Int×Int×Wld×Wld×za)⊕(Wld×Wld×za)) :=
 (.ite (decide (x1 < x0))
  (.guard ((0:Int)≤x1∧x1 < ((Sl.len (.strs x4.Links.Said.x1):Nat):Int))
  (.guard ((0:Int)≤x1∧x1 < ((Sl.len (.ints x4.Links.Due.x1):Nat):Int))
  (.leaf (.inl (x0,i64.wrap (x1+1),x2,x3,{ x4 with Links:={ x4.Links with Said:=(⟨x4.Links.Said.x0,x4.Links.Said.x1.set x1.toNat (⟨#[115,112,111,105,108,116]⟩:ByteArray)⟩:(A2 (List ByteArray))),Due:=(⟨x4.Links.Due.x0,x4.Links.Due.x1.set x1.toNat (-1)⟩:(A2 (List Int))) } })))))
  (.leaf (.inr (x2,x3,x4))))
def zhh (x0 x1:Int) (x2 x3:Wld) (x4:za):=zcv (fun s:Int×Int×Wld×Wld×za=>(zde s.1 s.2.1 s.2.2.1 s.2.2.2.1 s.2.2.2.2).run) (x0,x1,x2,x3,x4)
def zav6:Ann:=⟨[],[],[],zvi,[]⟩
def zav7:=EndD.mk (LQ.map (LQ.kp 0 0 (LQ.kp 1 0 (LQ.kp 3 0 (LQ.kp 3 80 (LQ.k (LQ.kint 1) (LQ.v intP (LQ.v intP (LQ.seq (LP.q zc4) (LQ.kp 2 0 (LQ.seq (LP.q zc4) (LQ.v intP (LQ.v intP (LQ.seq (LP.q bankL) (LQ.seq (LP.q validatorsL) (LQ.seq (LP.q (a4L (a6L (LP.one intP)))) (LQ.k (LQ.c (.own 4)) (LQ.v intP (LQ.k (LQ.c (.own 5)) (LQ.v boolP (LQ.v boolP (LQ.v intP (LQ.k (LQ.c (.own 6)) (LQ.v boolP (LQ.k (LQ.c (.own 7)) (LQ.k (LQ.c (.own 8)) (LQ.k (LQ.c (.own 9)) (LQ.v intP (LQ.v boolP (LQ.v intP (LQ.v intP (LQ.v intP (LQ.v intP (LQ.v boolP (LQ.v boolP (LQ.v intP (LQ.k (LQ.c (.own 10)) (LQ.v boolP (LQ.k (LQ.c (.own 11)) (LQ.k (LQ.c (.own 12)) (LQ.k (LQ.c (.own 13)) (LQ.v intP (LQ.v boolP (LQ.v intP (LQ.v intP (LQ.v intP (LQ.v intP (LQ.seq (LP.q meterL) (LQ.k (LQ.c (.own 14)) (LQ.v zc6 (LQ.v zd (LQ.v zd (LQ.v zt (LQ.v zb6 (LQ.v zt (LQ.v zd (LQ.v zt (LQ.v zb6 (LQ.v zt (Par.q zbe))))))))))))))))))))))))))))))))))))))))))))))))))))))))))) (fun x=>(x.1,x.2.1,x.2.2.1,x.2.2.2.1,(⟨(d4 x).1,(d4 x).2.1,(⟨(d4 x).2.2.1,(d4 x).2.2.2.1,(d8 x).1,(d28 x).2.2.2.1,(d8 x).2.1⟩:Stake),(d32 x).1,(⟨(⟨(d8 x).2.2.1,(d20 x).1⟩:(A2 Bool)),(⟨(d8 x).2.2.2.1,(d20 x).2.1⟩:(A2 Bool)),(⟨(d12 x).1,(d20 x).2.2.1⟩:(A2 Int)),(⟨(d32 x).2.1,(d36 x).2.1⟩:(A2 (List Power))),(⟨(d12 x).2.1,(d20 x).2.2.2.1⟩:(A2 Bool)),(⟨(d32 x).2.2.1,(d36 x).2.2.1⟩:(A2 (List Int))),(⟨(d32 x).2.2.2.1,(d36 x).2.2.2.1⟩:(A2 (List ByteArray))),(⟨(d36 x).1,(d40 x).1⟩:(A2 (List Int))),(⟨(d12 x).2.2.1,(d24 x).1⟩:(A2 Int)),(⟨(d12 x).2.2.2.1,(d24 x).2.1⟩:(A2 Bool)),(⟨(d16 x).1,(d24 x).2.2.1⟩:(A2 Int)),(⟨(d16 x).2.1,(d24 x).2.2.2.1⟩:(A2 Int)),(⟨(d16 x).2.2.1,(d28 x).1⟩:(A2 Int)),(⟨(d16 x).2.2.2.1,(d28 x).2.1⟩:(A2 Int))⟩:Links),(d28 x).2.2.1,(d40 x).2⟩:za))) (fun y=>(y.1,y.2.1,y.2.2.1,y.2.2.2.1,(d4 y).Height,(d4 y).Time,(d4 y).Stake.Bank,(d4 y).Stake.Validators,(d4 y).Stake.Shares,(d4 y).Stake.Next,(d4 y).Links.On.x0,(d4 y).Links.Gone.x0,(d4 y).Links.Base.x0,(d4 y).Links.Fresh.x0,(d4 y).Links.Got.x0,(d4 y).Links.Closed.x0,(d4 y).Links.SHeight.x0,(d4 y).Links.STime.x0,(d4 y).Links.SSaid.x0,(d4 y).Links.SGot.x0,(d4 y).Links.On.x1,(d4 y).Links.Gone.x1,(d4 y).Links.Base.x1,(d4 y).Links.Fresh.x1,(d4 y).Links.Got.x1,(d4 y).Links.Closed.x1,(d4 y).Links.SHeight.x1,(d4 y).Links.STime.x1,(d4 y).Links.SSaid.x1,(d4 y).Links.SGot.x1,(d4 y).Meter,(d4 y).Stake.Waits,(d4 y).Set,(d4 y).Links.Told.x0,(d4 y).Links.Done.x0,(d4 y).Links.Said.x0,(d4 y).Links.Due.x0,(d4 y).Links.Told.x1,(d4 y).Links.Done.x1,(d4 y).Links.Said.x1,(d4 y).Links.Due.x1,(d4 y).Queue)) (fun _=>rfl)) ⟨[0,3,8,12,62,104,105],[.nilcell 8 63 78 (.waits []),.nilcell 8 65 83 (.powers []),.nilcell 8 69 83 (.powers []),.nilcell 8 71 3 (.ints []),.nilcell 8 72 9 (.strs []),.nilcell 8 73 3 (.ints []),.nilcell 8 83 83 (.powers []),.nilcell 8 85 3 (.ints []),.nilcell 8 86 9 (.strs []),.nilcell 8 87 3 (.ints []),.nilcell 8 96 90 (.asked [])]⟩ [.cells 99 159,.cells 25 1,.cells 99 159,.cells 58 97,.rows 78,.rows 83,.rows 83,.rows 3,.rows 9,.rows 3,.rows 83,.rows 3,.rows 9,.rows 3,.rows 90]
def zalj:=EndD.mk (LQ.map (LQ.kp 0 0 (LQ.kp 1 0 (LQ.kp 3 0 (LQ.k (LQ.kint 1) (LQ.seq (LP.q zc4) (LQ.kp 2 0 (LQ.seq (LP.q zc4) (LQ.v intP (LQ.v intP (LQ.seq (LP.q bankL) (LQ.seq (LP.q validatorsL) (LQ.seq (LP.q (a4L (a6L (LP.one intP)))) (LQ.k (LQ.c (.own 4)) (LQ.v intP (LQ.k (LQ.c (.own 5)) (LQ.v boolP (LQ.v boolP (LQ.v intP (LQ.k (LQ.c (.own 6)) (LQ.v boolP (LQ.k (LQ.c (.own 7)) (LQ.k (LQ.c (.own 8)) (LQ.k (LQ.c (.own 9)) (LQ.v intP (LQ.v boolP (LQ.v intP (LQ.v intP (LQ.v intP (LQ.v intP (LQ.v boolP (LQ.v boolP (LQ.v intP (LQ.k (LQ.c (.own 10)) (LQ.v boolP (LQ.k (LQ.c (.own 11)) (LQ.k (LQ.c (.own 12)) (LQ.k (LQ.c (.own 13)) (LQ.v intP (LQ.v boolP (LQ.v intP (LQ.v intP (LQ.v intP (LQ.v intP (LQ.seq (LP.q meterL) (LQ.k (LQ.c (.own 14)) (LQ.v zc6 (LQ.v zd (LQ.v zd (LQ.v zt (LQ.v zb6 (LQ.v zt (LQ.v zd (LQ.v zt (LQ.v zb6 (LQ.v zt (Par.q zbe)))))))))))))))))))))))))))))))))))))))))))))))))))))))) (fun x=>(x.1,x.2.1,(⟨x.2.2.1,x.2.2.2.1,(⟨(d4 x).1,(d4 x).2.1,(d4 x).2.2.1,(d28 x).2.1,(d4 x).2.2.2.1⟩:Stake),(d28 x).2.2.1,(⟨(⟨(d8 x).1,(d16 x).2.2.1⟩:(A2 Bool)),(⟨(d8 x).2.1,(d16 x).2.2.2.1⟩:(A2 Bool)),(⟨(d8 x).2.2.1,(d20 x).1⟩:(A2 Int)),(⟨(d28 x).2.2.2.1,(d32 x).2.2.2.1⟩:(A2 (List Power))),(⟨(d8 x).2.2.2.1,(d20 x).2.1⟩:(A2 Bool)),(⟨(d32 x).1,(d36 x).1⟩:(A2 (List Int))),(⟨(d32 x).2.1,(d36 x).2.1⟩:(A2 (List ByteArray))),(⟨(d32 x).2.2.1,(d36 x).2.2.1⟩:(A2 (List Int))),(⟨(d12 x).1,(d20 x).2.2.1⟩:(A2 Int)),(⟨(d12 x).2.1,(d20 x).2.2.2.1⟩:(A2 Bool)),(⟨(d12 x).2.2.1,(d24 x).1⟩:(A2 Int)),(⟨(d12 x).2.2.2.1,(d24 x).2.1⟩:(A2 Int)),(⟨(d16 x).1,(d24 x).2.2.1⟩:(A2 Int)),(⟨(d16 x).2.1,(d24 x).2.2.2.1⟩:(A2 Int))⟩:Links),(d28 x).1,(d36 x).2.2.2⟩:za))) (fun y=>(y.1,y.2.1,y.2.2.Height,y.2.2.Time,y.2.2.Stake.Bank,y.2.2.Stake.Validators,y.2.2.Stake.Shares,y.2.2.Stake.Next,y.2.2.Links.On.x0,y.2.2.Links.Gone.x0,y.2.2.Links.Base.x0,y.2.2.Links.Fresh.x0,y.2.2.Links.Got.x0,y.2.2.Links.Closed.x0,y.2.2.Links.SHeight.x0,y.2.2.Links.STime.x0,y.2.2.Links.SSaid.x0,y.2.2.Links.SGot.x0,y.2.2.Links.On.x1,y.2.2.Links.Gone.x1,y.2.2.Links.Base.x1,y.2.2.Links.Fresh.x1,y.2.2.Links.Got.x1,y.2.2.Links.Closed.x1,y.2.2.Links.SHeight.x1,y.2.2.Links.STime.x1,y.2.2.Links.SSaid.x1,y.2.2.Links.SGot.x1,y.2.2.Meter,y.2.2.Stake.Waits,y.2.2.Set,y.2.2.Links.Told.x0,y.2.2.Links.Done.x0,y.2.2.Links.Said.x0,y.2.2.Links.Due.x0,y.2.2.Links.Told.x1,y.2.2.Links.Done.x1,y.2.2.Links.Said.x1,y.2.2.Links.Due.x1,y.2.2.Queue)) (fun _=>rfl)) ⟨[0,3,8,62],[.nilcell 8 63 78 (.waits []),.nilcell 8 65 83 (.powers []),.nilcell 8 69 83 (.powers []),.nilcell 8 71 3 (.ints []),.nilcell 8 72 9 (.strs []),.nilcell 8 73 3 (.ints []),.nilcell 8 83 83 (.powers []),.nilcell 8 85 3 (.ints []),.nilcell 8 86 9 (.strs []),.nilcell 8 87 3 (.ints []),.nilcell 8 96 90 (.asked [])]⟩ [.cells 99 159,.cells 25 1,.cells 99 159,.cells 58 97,.rows 78,.rows 83,.rows 83,.rows 3,.rows 9,.rows 3,.rows 83,.rows 3,.rows 9,.rows 3,.rows 90]
def zaoa:St→Option LR:=L1 218 30 3 zav7 (.exit 10) zalj (u5 zde)
def zs141h:=sub (fb Tryz.f20) [0,1,1,1,1,1,0,0,1,1,3,0,1,0,1,1,1,1,1,1]
theorem zav8:zl (zvj).env 3 zs141h zaoa :=
 zd1 (A:=zav6) zvk fM trivial (k:=za5 zs141h) (by kernel_rfl) rfl (by rintro ⟨x0,x1,x2,x3,x4⟩;kernel_rfl)
def zdf (x0 x1:Int) (x2 x3:Wld) (x4:za): Tr ((Int×Int×Wld×Wld×za)⊕(Wld×Wld)) :=
 (.ite (decide (x1 < x0))
  (.guard ((0:Int)≤x1∧x1 < ((Sl.len (.asked x4.Queue):Nat):Int))
  (.leaf (.inl (x0,i64.wrap (x1+1),x2,x3,{ x4 with Queue:=x4.Queue.set x1.toNat (⟨-1,(x4.Queue.getD x1.toNat default).P⟩:Asked) }))))
  (.leaf (.inr (x2,x3))))
def zhi (x0 x1:Int) (x2 x3:Wld) (x4:za):=zcv (fun s:Int×Int×Wld×Wld×za=>(zdf s.1 s.2.1 s.2.2.1 s.2.2.2.1 s.2.2.2.2).run) (x0,x1,x2,x3,x4)
def zav9:Ann:=⟨[],[],[],zvi,[]⟩
def zawa:=EndD.mk (LQ.map (LQ.kp 0 0 (LQ.kp 1 0 (LQ.kp 3 0 (LQ.v intP (LQ.v intP (LQ.seq (LP.q zc4) (LQ.kp 2 0 (LQ.seq (LP.q zc4) (LQ.v intP (LQ.v intP (LQ.seq (LP.q bankL) (LQ.seq (LP.q validatorsL) (LQ.seq (LP.q (a4L (a6L (LP.one intP)))) (LQ.k (LQ.c (.own 4)) (LQ.v intP (LQ.k (LQ.c (.own 5)) (LQ.v boolP (LQ.v boolP (LQ.v intP (LQ.k (LQ.c (.own 6)) (LQ.v boolP (LQ.k (LQ.c (.own 7)) (LQ.k (LQ.c (.own 8)) (LQ.k (LQ.c (.own 9)) (LQ.v intP (LQ.v boolP (LQ.v intP (LQ.v intP (LQ.v intP (LQ.v intP (LQ.v boolP (LQ.v boolP (LQ.v intP (LQ.k (LQ.c (.own 10)) (LQ.v boolP (LQ.k (LQ.c (.own 11)) (LQ.k (LQ.c (.own 12)) (LQ.k (LQ.c (.own 13)) (LQ.v intP (LQ.v boolP (LQ.v intP (LQ.v intP (LQ.v intP (LQ.v intP (LQ.seq (LP.q meterL) (LQ.k (LQ.c (.own 14)) (LQ.v zc6 (LQ.v zd (LQ.v zd (LQ.v zt (LQ.v zb6 (LQ.v zt (LQ.v zd (LQ.v zt (LQ.v zb6 (LQ.v zt (Par.q zbe))))))))))))))))))))))))))))))))))))))))))))))))))))))))) (fun x=>(x.1,x.2.1,x.2.2.1,x.2.2.2.1,(⟨(d4 x).1,(d4 x).2.1,(⟨(d4 x).2.2.1,(d4 x).2.2.2.1,(d8 x).1,(d28 x).2.2.2.1,(d8 x).2.1⟩:Stake),(d32 x).1,(⟨(⟨(d8 x).2.2.1,(d20 x).1⟩:(A2 Bool)),(⟨(d8 x).2.2.2.1,(d20 x).2.1⟩:(A2 Bool)),(⟨(d12 x).1,(d20 x).2.2.1⟩:(A2 Int)),(⟨(d32 x).2.1,(d36 x).2.1⟩:(A2 (List Power))),(⟨(d12 x).2.1,(d20 x).2.2.2.1⟩:(A2 Bool)),(⟨(d32 x).2.2.1,(d36 x).2.2.1⟩:(A2 (List Int))),(⟨(d32 x).2.2.2.1,(d36 x).2.2.2.1⟩:(A2 (List ByteArray))),(⟨(d36 x).1,(d40 x).1⟩:(A2 (List Int))),(⟨(d12 x).2.2.1,(d24 x).1⟩:(A2 Int)),(⟨(d12 x).2.2.2.1,(d24 x).2.1⟩:(A2 Bool)),(⟨(d16 x).1,(d24 x).2.2.1⟩:(A2 Int)),(⟨(d16 x).2.1,(d24 x).2.2.2.1⟩:(A2 Int)),(⟨(d16 x).2.2.1,(d28 x).1⟩:(A2 Int)),(⟨(d16 x).2.2.2.1,(d28 x).2.1⟩:(A2 Int))⟩:Links),(d28 x).2.2.1,(d40 x).2⟩:za))) (fun y=>(y.1,y.2.1,y.2.2.1,y.2.2.2.1,(d4 y).Height,(d4 y).Time,(d4 y).Stake.Bank,(d4 y).Stake.Validators,(d4 y).Stake.Shares,(d4 y).Stake.Next,(d4 y).Links.On.x0,(d4 y).Links.Gone.x0,(d4 y).Links.Base.x0,(d4 y).Links.Fresh.x0,(d4 y).Links.Got.x0,(d4 y).Links.Closed.x0,(d4 y).Links.SHeight.x0,(d4 y).Links.STime.x0,(d4 y).Links.SSaid.x0,(d4 y).Links.SGot.x0,(d4 y).Links.On.x1,(d4 y).Links.Gone.x1,(d4 y).Links.Base.x1,(d4 y).Links.Fresh.x1,(d4 y).Links.Got.x1,(d4 y).Links.Closed.x1,(d4 y).Links.SHeight.x1,(d4 y).Links.STime.x1,(d4 y).Links.SSaid.x1,(d4 y).Links.SGot.x1,(d4 y).Meter,(d4 y).Stake.Waits,(d4 y).Set,(d4 y).Links.Told.x0,(d4 y).Links.Done.x0,(d4 y).Links.Said.x0,(d4 y).Links.Due.x0,(d4 y).Links.Told.x1,(d4 y).Links.Done.x1,(d4 y).Links.Said.x1,(d4 y).Links.Due.x1,(d4 y).Queue)) (fun _=>rfl)) ⟨[0,3,8,126,127],[.nilcell 8 63 78 (.waits []),.nilcell 8 65 83 (.powers []),.nilcell 8 69 83 (.powers []),.nilcell 8 71 3 (.ints []),.nilcell 8 72 9 (.strs []),.nilcell 8 73 3 (.ints []),.nilcell 8 83 83 (.powers []),.nilcell 8 85 3 (.ints []),.nilcell 8 86 9 (.strs []),.nilcell 8 87 3 (.ints []),.nilcell 8 96 90 (.asked [])]⟩ [.cells 99 159,.cells 25 1,.cells 99 159,.cells 58 97,.rows 78,.rows 83,.rows 83,.rows 3,.rows 9,.rows 3,.rows 83,.rows 3,.rows 9,.rows 3,.rows 90]
def zalk:=EndD.mk (LQ.kp 0 0 (LQ.kp 1 0 (LQ.seq (LP.q zc4) (LQ.kp 2 0 (LP.q zc4))))) ⟨[0,3],[]⟩ [.cells 99 159,.cells 25 1,.cells 99 159]
def zaob:St→Option LR:=L1 218 30 3 zawa (.exit 12) zalk (u5 zdf)
def zs141i:=sub (fb Tryz.f20) [0,1,0,1,1,1,1,1,1,1]
theorem zawb:zl (zvj).env 3 zs141i zaob :=
 zd1 (A:=zav9) zvk fM trivial (k:=za5 zs141i) (by kernel_rfl) rfl (by rintro ⟨x0,x1,x2,x3,x4⟩;kernel_rfl)
def zco (x0 x1 x2:Int) (x3 x4:Wld) (x5:zb): Tr ((Int×Int×Int×Wld×Wld×zb)⊕(Int×Wld×Wld×zb)) :=
 (.ite (decide (x2 < x1))
  (.guard ((0:Int)≤x2∧x2 < ((Sl.len (.powers x5.Set):Nat):Int))
  (.leaf (.inl (x0,x1,i64.wrap (x2+1),x3,x4,{ x5 with Set:=x5.Set.set x2.toNat (⟨(x5.Set.getD x2.toNat default).V,-1⟩:Power) }))))
  (.leaf (.inr (x0,x3,x4,x5))))
def zgk (x0 x1 x2:Int) (x3 x4:Wld) (x5:zb):=zcv (fun s:Int×Int×Int×Wld×Wld×zb=>(zco s.1 s.2.1 s.2.2.1 s.2.2.2.1 s.2.2.2.2.1 s.2.2.2.2.2).run) (x0,x1,x2,x3,x4,x5)
def zawc:Ann:=⟨[],[],[],zvi,[]⟩
def zawd:=EndD.mk (LQ.map (LQ.kp 0 0 (LQ.kp 1 0 (LQ.v intP (LQ.kp 3 0 (LQ.v intP (LQ.v intP (LQ.seq (LP.q zc4) (LQ.kp 2 0 (LQ.seq (LP.q zc4) (LQ.v boolP (LQ.v boolP (LQ.v intP (LQ.v intP (LQ.v intP (LQ.k (LQ.c (.own 4)) (LQ.k (LQ.c (.nst 5 .whole)) (LQ.k (LQ.c (.own 6)) (LQ.seq (LP.q (a6L (LP.one boolP))) (LQ.k (LQ.c (.own 7)) (LQ.k (LQ.c (.own 8)) (LQ.v intP (LQ.v boolP (LQ.seq (LP.q zp6) (LQ.v zd (LQ.v zal (LQ.v zhw (LQ.v zb6 (Par.q zt)))))))))))))))))))))))))))) (fun x=>(x.1,x.2.1,x.2.2.1,x.2.2.2.1,(d4 x).1,(⟨(d4 x).2.1,(d4 x).2.2.1,(d4 x).2.2.2.1,(d8 x).1,(d8 x).2.1,(d12 x).2.2.1,(d12 x).2.2.2.1,(d16 x).1,(d8 x).2.2.1,(⟨(d16 x).2.1,(d16 x).2.2,(d8 x).2.2.2.1,(d12 x).1⟩:zcd),(d12 x).2.1⟩:zb))) (fun y=>(y.1,y.2.1,y.2.2.1,y.2.2.2.1,(d4 y).1,(d4 y).2.On,(d4 y).2.Gone,(d4 y).2.Height,(d4 y).2.Time,(d4 y).2.Id,(d4 y).2.Flags,(d4 y).2.Out.Got,(d4 y).2.Out.Closed,(d4 y).2.Seen,(d4 y).2.Set,(d4 y).2.Pending,(d4 y).2.Ripes,(d4 y).2.Out.Said,(d4 y).2.Out.Due)) (fun _=>rfl)) ⟨[0,3,17,18,151,152],[.nilcell 18 5 83 (.powers []),.nilcell 18 7 93 (.ripes []),.nilcell 18 14 9 (.strs []),.nilcell 18 15 3 (.ints [])]⟩ [.cells 99 159,.cells 25 1,.cells 99 159,.cells 64 22,.rows 83,.nest 73 83 false,.rows 93,.rows 9,.rows 3]
def zall:=EndD.mk (LQ.map (LQ.kp 0 0 (LQ.kp 1 0 (LQ.v intP (LQ.kp 3 0 (LQ.seq (LP.q zc4) (LQ.kp 2 0 (LQ.seq (LP.q zc4) (LQ.v boolP (LQ.v boolP (LQ.v intP (LQ.v intP (LQ.v intP (LQ.k (LQ.c (.own 4)) (LQ.k (LQ.c (.nst 5 .whole)) (LQ.k (LQ.c (.own 6)) (LQ.seq (LP.q (a6L (LP.one boolP))) (LQ.k (LQ.c (.own 7)) (LQ.k (LQ.c (.own 8)) (LQ.v intP (LQ.v boolP (LQ.seq (LP.q zp6) (LQ.v zd (LQ.v zal (LQ.v zhw (LQ.v zb6 (Par.q zt)))))))))))))))))))))))))) (fun x=>(x.1,x.2.1,x.2.2.1,(⟨x.2.2.2.1,(d4 x).1,(d4 x).2.1,(d4 x).2.2.1,(d4 x).2.2.2.1,(d12 x).1,(d12 x).2.1,(d12 x).2.2.1,(d8 x).1,(⟨(d12 x).2.2.2.1,(d16 x),(d8 x).2.1,(d8 x).2.2.1⟩:zcd),(d8 x).2.2.2.1⟩:zb))) (fun y=>(y.1,y.2.1,y.2.2.1,y.2.2.2.On,y.2.2.2.Gone,y.2.2.2.Height,y.2.2.2.Time,y.2.2.2.Id,y.2.2.2.Flags,y.2.2.2.Out.Got,y.2.2.2.Out.Closed,y.2.2.2.Seen,y.2.2.2.Set,y.2.2.2.Pending,y.2.2.2.Ripes,y.2.2.2.Out.Said,y.2.2.2.Out.Due)) (fun _=>rfl)) ⟨[0,3,17,18],[.nilcell 18 5 83 (.powers []),.nilcell 18 7 93 (.ripes []),.nilcell 18 14 9 (.strs []),.nilcell 18 15 3 (.ints [])]⟩ [.cells 99 159,.cells 25 1,.cells 99 159,.cells 64 22,.rows 83,.nest 73 83 false,.rows 93,.rows 9,.rows 3]
def zaoc:St→Option LR:=L1 218 30 3 zawd (.exit 16) zall (u6 zco)
def zs141j:=sub (fb Tryz.f20) [0,1,0,1,1,0,0,1,0,0,1,0,1,1,1,1,1,1,1,1]
theorem zawe:zl (zvj).env 3 zs141j zaoc :=
 zd1 (A:=zawc) zvk fM trivial (k:=za5 zs141j) (by kernel_rfl) rfl (by rintro ⟨x0,x1,x2,x3,x4,x5⟩;kernel_rfl)
def zcp (x0 x1 x2 x3 x4 x5:Int) (x6 x7:Wld) (x8:zb): Tr ((Int×Int×Int×Int×Int×Int×Wld×Wld×zb)⊕(Int×Int×Int×Int×Wld×Wld×zb)) :=
 (.ite (decide (x5 < x4))
  (.guard ((0:Int)≤x1∧x1 < ((x8.Pending.length:Nat):Int))
  (.guard ((0:Int)≤x5∧x5 < (((x8.Pending.getD x1.toNat default).Set.length:Nat):Int))
  (.leaf (.inl (x0,x1,x2,x3,x4,i64.wrap (x5+1),x6,x7,x8)))))
  (.leaf (.inr (x0,x1,x2,x3,x6,x7,x8))))
def zgl (x0 x1 x2 x3 x4 x5:Int) (x6 x7:Wld) (x8:zb):=zcv (fun s:Int×Int×Int×Int×Int×Int×Wld×Wld×zb=>(zcp s.1 s.2.1 s.2.2.1 s.2.2.2.1 s.2.2.2.2.1 s.2.2.2.2.2.1 s.2.2.2.2.2.2.1 s.2.2.2.2.2.2.2.1 s.2.2.2.2.2.2.2.2).run) (x0,x1,x2,x3,x4,x5,x6,x7,x8)
def zawf:Ann:=⟨[],[],[],zvi,[]⟩
def zawg:=EndD.mk (LQ.map (LQ.kp 0 0 (LQ.kp 1 0 (LQ.v intP (LQ.kp 3 0 (LQ.v intP (LQ.v intP (LQ.v intP (LQ.v intP (LQ.v intP (LQ.seq (LP.q zc4) (LQ.kp 2 0 (LQ.seq (LP.q zc4) (LQ.v boolP (LQ.v boolP (LQ.v intP (LQ.v intP (LQ.v intP (LQ.k (LQ.c (.own 4)) (LQ.k (LQ.c (.nst 5 .whole)) (LQ.k (LQ.c (.own 6)) (LQ.seq (LP.q (a6L (LP.one boolP))) (LQ.k (LQ.c (.own 7)) (LQ.k (LQ.c (.own 8)) (LQ.v intP (LQ.v boolP (LQ.seq (LP.q zp6) (LQ.v zd (LQ.v zal (LQ.v zhw (LQ.v zb6 (Par.q zt))))))))))))))))))))))))))))))) (fun x=>(x.1,x.2.1,x.2.2.1,x.2.2.2.1,(d4 x).1,(d4 x).2.1,(d4 x).2.2.1,(d4 x).2.2.2.1,(⟨(d8 x).1,(d8 x).2.1,(d8 x).2.2.1,(d8 x).2.2.2.1,(d12 x).1,(d16 x).2.1,(d16 x).2.2.1,(d16 x).2.2.2.1,(d12 x).2.1,(⟨(d20 x).1,(d20 x).2,(d12 x).2.2.1,(d12 x).2.2.2.1⟩:zcd),(d16 x).1⟩:zb))) (fun y=>(y.1,y.2.1,y.2.2.1,y.2.2.2.1,(d4 y).1,(d4 y).2.1,(d4 y).2.2.1,(d4 y).2.2.2.1,(d8 y).On,(d8 y).Gone,(d8 y).Height,(d8 y).Time,(d8 y).Id,(d8 y).Flags,(d8 y).Out.Got,(d8 y).Out.Closed,(d8 y).Seen,(d8 y).Set,(d8 y).Pending,(d8 y).Ripes,(d8 y).Out.Said,(d8 y).Out.Due)) (fun _=>rfl)) ⟨[0,3,17,18,20,163,164,173,174],[.nilcell 18 5 83 (.powers []),.nilcell 18 7 93 (.ripes []),.nilcell 18 14 9 (.strs []),.nilcell 18 15 3 (.ints [])]⟩ [.cells 99 159,.cells 25 1,.cells 99 159,.cells 64 22,.rows 83,.nest 73 83 false,.rows 93,.rows 9,.rows 3]
def zalm:=EndD.mk (LQ.map (LQ.kp 0 0 (LQ.kp 1 0 (LQ.v intP (LQ.kp 3 0 (LQ.v intP (LQ.v intP (LQ.v intP (LQ.seq (LP.q zc4) (LQ.kp 2 0 (LQ.seq (LP.q zc4) (LQ.v boolP (LQ.v boolP (LQ.v intP (LQ.v intP (LQ.v intP (LQ.k (LQ.c (.own 4)) (LQ.k (LQ.c (.nst 5 .whole)) (LQ.k (LQ.c (.own 6)) (LQ.seq (LP.q (a6L (LP.one boolP))) (LQ.k (LQ.c (.own 7)) (LQ.k (LQ.c (.own 8)) (LQ.v intP (LQ.v boolP (LQ.seq (LP.q zp6) (LQ.v zd (LQ.v zal (LQ.v zhw (LQ.v zb6 (Par.q zt))))))))))))))))))))))))))))) (fun x=>(x.1,x.2.1,x.2.2.1,x.2.2.2.1,(d4 x).1,(d4 x).2.1,(⟨(d4 x).2.2.1,(d4 x).2.2.2.1,(d8 x).1,(d8 x).2.1,(d8 x).2.2.1,(d12 x).2.2.2.1,(d16 x).1,(d16 x).2.1,(d8 x).2.2.2.1,(⟨(d16 x).2.2.1,(d16 x).2.2.2,(d12 x).1,(d12 x).2.1⟩:zcd),(d12 x).2.2.1⟩:zb))) (fun y=>(y.1,y.2.1,y.2.2.1,y.2.2.2.1,(d4 y).1,(d4 y).2.1,(d4 y).2.2.On,(d4 y).2.2.Gone,(d4 y).2.2.Height,(d4 y).2.2.Time,(d4 y).2.2.Id,(d4 y).2.2.Flags,(d4 y).2.2.Out.Got,(d4 y).2.2.Out.Closed,(d4 y).2.2.Seen,(d4 y).2.2.Set,(d4 y).2.2.Pending,(d4 y).2.2.Ripes,(d4 y).2.2.Out.Said,(d4 y).2.2.Out.Due)) (fun _=>rfl)) ⟨[0,3,17,18,20,163,164],[.nilcell 18 5 83 (.powers []),.nilcell 18 7 93 (.ripes []),.nilcell 18 14 9 (.strs []),.nilcell 18 15 3 (.ints [])]⟩ [.cells 99 159,.cells 25 1,.cells 99 159,.cells 64 22,.rows 83,.nest 73 83 false,.rows 93,.rows 9,.rows 3]
def zaod:St→Option LR:=L1 218 30 3 zawg (.exit 20) zalm (u9 zcp)
def zs141k:=sub (fb Tryz.f20) [0,1,0,1,0,0,1,1,0,0,1,0,1,1,1,0,0,1,0,0,1,0,1,1,1,1,1,1,1,1]
theorem zawh:zl (zvj).env 3 zs141k zaod :=
 zd1 (A:=zawf) zvk fM trivial (k:=za5 zs141k) (by kernel_rfl) rfl (by rintro ⟨x0,x1,x2,x3,x4,x5,x6,x7,x8⟩;kernel_rfl)
def zcq (x0 x1 x2:Int) (x3 x4:Wld) (x5:zb): Tr ((Int×Int×Int×Wld×Wld×zb)⊕(Int×Wld×Wld×zb)) :=
 (.ite (decide (x2 < x1))
  (.guard ((0:Int)≤x2∧x2 < ((x5.Pending.length:Nat):Int))
  (.bind (zgl x0 x2 x1 x2 (((x5.Pending.getD x2.toNat default).Set.length:Nat):Int) 0 x3 x4 x5) fun v13 =>
  (.guard ((0:Int)≤v13.2.1∧v13.2.1 < ((v13.2.2.2.2.2.2.Pending.length:Nat):Int))
  (.leaf (.inl (v13.1,v13.2.2.1,i64.wrap (v13.2.2.2.1+1),v13.2.2.2.2.1,v13.2.2.2.2.2.1,v13.2.2.2.2.2.2))))))
  (.leaf (.inr (x0,x3,x4,x5))))
def zgm (x0 x1 x2:Int) (x3 x4:Wld) (x5:zb):=zcv (fun s:Int×Int×Int×Wld×Wld×zb=>(zcq s.1 s.2.1 s.2.2.1 s.2.2.2.1 s.2.2.2.2.1 s.2.2.2.2.2).run) (x0,x1,x2,x3,x4,x5)
def zawi:Ann:=⟨[([0,1,0,1,0,0,1,1,0,0,1,0,1,1,1,0,0,1,0,0,1,0,1,1,1,1,1,1,1,1],zaod)],[],[],zvi,[]⟩
def zawj:=EndD.mk (LQ.map (LQ.kp 0 0 (LQ.kp 1 0 (LQ.v intP (LQ.kp 3 0 (LQ.v intP (LQ.v intP (LQ.seq (LP.q zc4) (LQ.kp 2 0 (LQ.seq (LP.q zc4) (LQ.v boolP (LQ.v boolP (LQ.v intP (LQ.v intP (LQ.v intP (LQ.k (LQ.c (.own 4)) (LQ.k (LQ.c (.nst 5 .whole)) (LQ.k (LQ.c (.own 6)) (LQ.seq (LP.q (a6L (LP.one boolP))) (LQ.k (LQ.c (.own 7)) (LQ.k (LQ.c (.own 8)) (LQ.v intP (LQ.v boolP (LQ.seq (LP.q zp6) (LQ.v zd (LQ.v zal (LQ.v zhw (LQ.v zb6 (Par.q zt)))))))))))))))))))))))))))) (fun x=>(x.1,x.2.1,x.2.2.1,x.2.2.2.1,(d4 x).1,(⟨(d4 x).2.1,(d4 x).2.2.1,(d4 x).2.2.2.1,(d8 x).1,(d8 x).2.1,(d12 x).2.2.1,(d12 x).2.2.2.1,(d16 x).1,(d8 x).2.2.1,(⟨(d16 x).2.1,(d16 x).2.2,(d8 x).2.2.2.1,(d12 x).1⟩:zcd),(d12 x).2.1⟩:zb))) (fun y=>(y.1,y.2.1,y.2.2.1,y.2.2.2.1,(d4 y).1,(d4 y).2.On,(d4 y).2.Gone,(d4 y).2.Height,(d4 y).2.Time,(d4 y).2.Id,(d4 y).2.Flags,(d4 y).2.Out.Got,(d4 y).2.Out.Closed,(d4 y).2.Seen,(d4 y).2.Set,(d4 y).2.Pending,(d4 y).2.Ripes,(d4 y).2.Out.Said,(d4 y).2.Out.Due)) (fun _=>rfl)) ⟨[0,3,17,18,163,164],[.nilcell 18 5 83 (.powers []),.nilcell 18 7 93 (.ripes []),.nilcell 18 14 9 (.strs []),.nilcell 18 15 3 (.ints [])]⟩ [.cells 99 159,.cells 25 1,.cells 99 159,.cells 64 22,.rows 83,.nest 73 83 false,.rows 93,.rows 9,.rows 3]
def zaln:=EndD.mk (LQ.map (LQ.kp 0 0 (LQ.kp 1 0 (LQ.v intP (LQ.kp 3 0 (LQ.seq (LP.q zc4) (LQ.kp 2 0 (LQ.seq (LP.q zc4) (LQ.v boolP (LQ.v boolP (LQ.v intP (LQ.v intP (LQ.v intP (LQ.k (LQ.c (.own 4)) (LQ.k (LQ.c (.nst 5 .whole)) (LQ.k (LQ.c (.own 6)) (LQ.seq (LP.q (a6L (LP.one boolP))) (LQ.k (LQ.c (.own 7)) (LQ.k (LQ.c (.own 8)) (LQ.v intP (LQ.v boolP (LQ.seq (LP.q zp6) (LQ.v zd (LQ.v zal (LQ.v zhw (LQ.v zb6 (Par.q zt)))))))))))))))))))))))))) (fun x=>(x.1,x.2.1,x.2.2.1,(⟨x.2.2.2.1,(d4 x).1,(d4 x).2.1,(d4 x).2.2.1,(d4 x).2.2.2.1,(d12 x).1,(d12 x).2.1,(d12 x).2.2.1,(d8 x).1,(⟨(d12 x).2.2.2.1,(d16 x),(d8 x).2.1,(d8 x).2.2.1⟩:zcd),(d8 x).2.2.2.1⟩:zb))) (fun y=>(y.1,y.2.1,y.2.2.1,y.2.2.2.On,y.2.2.2.Gone,y.2.2.2.Height,y.2.2.2.Time,y.2.2.2.Id,y.2.2.2.Flags,y.2.2.2.Out.Got,y.2.2.2.Out.Closed,y.2.2.2.Seen,y.2.2.2.Set,y.2.2.2.Pending,y.2.2.2.Ripes,y.2.2.2.Out.Said,y.2.2.2.Out.Due)) (fun _=>rfl)) ⟨[0,3,17,18],[.nilcell 18 5 83 (.powers []),.nilcell 18 7 93 (.ripes []),.nilcell 18 14 9 (.strs []),.nilcell 18 15 3 (.ints [])]⟩ [.cells 99 159,.cells 25 1,.cells 99 159,.cells 64 22,.rows 83,.nest 73 83 false,.rows 93,.rows 9,.rows 3]
def zaoe:St→Option LR:=L1 218 30 3 zawj (.exit 18) zaln (u6 zcq)
def zs141l:=sub (fb Tryz.f20) [0,1,0,1,1,1,0,0,1,0,0,1,0,1,1,1,1,1,1,1,1]
theorem zawk:zl (zvj).env 3 zs141l zaoe :=
 zd1 (A:=zawi) zvk fM ⟨zawh,trivial⟩ (k:=za5 zs141l) (by kernel_rfl) rfl (by rintro ⟨x0,x1,x2,x3,x4,x5⟩;kernel_rfl)
def zcr (x0 x1 x2:Int) (x3 x4:Wld) (x5:zb): Tr ((Int×Int×Int×Wld×Wld×zb)⊕(Int×Wld×Wld×zb)) :=
 (.ite (decide (x2 < x1))
  (.guard ((0:Int)≤x2∧x2 < ((Sl.len (.ripes x5.Ripes):Nat):Int))
  (.leaf (.inl (x0,x1,i64.wrap (x2+1),x3,x4,{ x5 with Ripes:=x5.Ripes.set x2.toNat (⟨(x5.Ripes.getD x2.toNat default).Id,-1⟩:Ripe) }))))
  (.leaf (.inr (x0,x3,x4,x5))))
def zgn (x0 x1 x2:Int) (x3 x4:Wld) (x5:zb):=zcv (fun s:Int×Int×Int×Wld×Wld×zb=>(zcr s.1 s.2.1 s.2.2.1 s.2.2.2.1 s.2.2.2.2.1 s.2.2.2.2.2).run) (x0,x1,x2,x3,x4,x5)
def zawl:Ann:=⟨[],[],[],zvi,[]⟩
def zawm:=EndD.mk (LQ.map (LQ.kp 0 0 (LQ.kp 1 0 (LQ.v intP (LQ.kp 3 0 (LQ.v intP (LQ.v intP (LQ.seq (LP.q zc4) (LQ.kp 2 0 (LQ.seq (LP.q zc4) (LQ.v boolP (LQ.v boolP (LQ.v intP (LQ.v intP (LQ.v intP (LQ.k (LQ.c (.own 4)) (LQ.k (LQ.c (.nst 5 .whole)) (LQ.k (LQ.c (.own 6)) (LQ.seq (LP.q (a6L (LP.one boolP))) (LQ.k (LQ.c (.own 7)) (LQ.k (LQ.c (.own 8)) (LQ.v intP (LQ.v boolP (LQ.seq (LP.q zp6) (LQ.v zd (LQ.v zal (LQ.v zhw (LQ.v zb6 (Par.q zt)))))))))))))))))))))))))))) (fun x=>(x.1,x.2.1,x.2.2.1,x.2.2.2.1,(d4 x).1,(⟨(d4 x).2.1,(d4 x).2.2.1,(d4 x).2.2.2.1,(d8 x).1,(d8 x).2.1,(d12 x).2.2.1,(d12 x).2.2.2.1,(d16 x).1,(d8 x).2.2.1,(⟨(d16 x).2.1,(d16 x).2.2,(d8 x).2.2.2.1,(d12 x).1⟩:zcd),(d12 x).2.1⟩:zb))) (fun y=>(y.1,y.2.1,y.2.2.1,y.2.2.2.1,(d4 y).1,(d4 y).2.On,(d4 y).2.Gone,(d4 y).2.Height,(d4 y).2.Time,(d4 y).2.Id,(d4 y).2.Flags,(d4 y).2.Out.Got,(d4 y).2.Out.Closed,(d4 y).2.Seen,(d4 y).2.Set,(d4 y).2.Pending,(d4 y).2.Ripes,(d4 y).2.Out.Said,(d4 y).2.Out.Due)) (fun _=>rfl)) ⟨[0,3,17,18,195,196],[.nilcell 18 5 83 (.powers []),.nilcell 18 7 93 (.ripes []),.nilcell 18 14 9 (.strs []),.nilcell 18 15 3 (.ints [])]⟩ [.cells 99 159,.cells 25 1,.cells 99 159,.cells 64 22,.rows 83,.nest 73 83 false,.rows 93,.rows 9,.rows 3]
def zalo:=EndD.mk (LQ.map (LQ.kp 0 0 (LQ.kp 1 0 (LQ.v intP (LQ.kp 3 0 (LQ.seq (LP.q zc4) (LQ.kp 2 0 (LQ.seq (LP.q zc4) (LQ.v boolP (LQ.v boolP (LQ.v intP (LQ.v intP (LQ.v intP (LQ.k (LQ.c (.own 4)) (LQ.k (LQ.c (.nst 5 .whole)) (LQ.k (LQ.c (.own 6)) (LQ.seq (LP.q (a6L (LP.one boolP))) (LQ.k (LQ.c (.own 7)) (LQ.k (LQ.c (.own 8)) (LQ.v intP (LQ.v boolP (LQ.seq (LP.q zp6) (LQ.v zd (LQ.v zal (LQ.v zhw (LQ.v zb6 (Par.q zt)))))))))))))))))))))))))) (fun x=>(x.1,x.2.1,x.2.2.1,(⟨x.2.2.2.1,(d4 x).1,(d4 x).2.1,(d4 x).2.2.1,(d4 x).2.2.2.1,(d12 x).1,(d12 x).2.1,(d12 x).2.2.1,(d8 x).1,(⟨(d12 x).2.2.2.1,(d16 x),(d8 x).2.1,(d8 x).2.2.1⟩:zcd),(d8 x).2.2.2.1⟩:zb))) (fun y=>(y.1,y.2.1,y.2.2.1,y.2.2.2.On,y.2.2.2.Gone,y.2.2.2.Height,y.2.2.2.Time,y.2.2.2.Id,y.2.2.2.Flags,y.2.2.2.Out.Got,y.2.2.2.Out.Closed,y.2.2.2.Seen,y.2.2.2.Set,y.2.2.2.Pending,y.2.2.2.Ripes,y.2.2.2.Out.Said,y.2.2.2.Out.Due)) (fun _=>rfl)) ⟨[0,3,17,18],[.nilcell 18 5 83 (.powers []),.nilcell 18 7 93 (.ripes []),.nilcell 18 14 9 (.strs []),.nilcell 18 15 3 (.ints [])]⟩ [.cells 99 159,.cells 25 1,.cells 99 159,.cells 64 22,.rows 83,.nest 73 83 false,.rows 93,.rows 9,.rows 3]
def zaof:St→Option LR:=L1 218 30 3 zawm (.exit 22) zalo (u6 zcr)
def zs141m:=sub (fb Tryz.f20) [0,1,0,1,1,1,1,0,0,1,0,0,1,0,1,1,1,1,1,1,1,1]
theorem zawn:zl (zvj).env 3 zs141m zaof :=
 zd1 (A:=zawl) zvk fM trivial (k:=za5 zs141m) (by kernel_rfl) rfl (by rintro ⟨x0,x1,x2,x3,x4,x5⟩;kernel_rfl)
def zcs (x0 x1 x2:Int) (x3 x4:Wld) (x5:zb): Tr ((Int×Int×Int×Wld×Wld×zb)⊕(Int×Wld×Wld)) :=
 (.ite (decide (x2 < x1))
  (.guard ((0:Int)≤x2∧x2 < ((Sl.len (.strs x5.Out.Said):Nat):Int))
  (.leaf (.inl (x0,x1,i64.wrap (x2+1),x3,x4,{ x5 with Out:={ x5.Out with Said:=x5.Out.Said.set x2.toNat (⟨#[115,112,111,105,108,116]⟩:ByteArray) } }))))
  (.leaf (.inr (x0,x3,x4))))
def zgo (x0 x1 x2:Int) (x3 x4:Wld) (x5:zb):=zcv (fun s:Int×Int×Int×Wld×Wld×zb=>(zcs s.1 s.2.1 s.2.2.1 s.2.2.2.1 s.2.2.2.2.1 s.2.2.2.2.2).run) (x0,x1,x2,x3,x4,x5)
def zawo:Ann:=⟨[],[],[],zvi,[]⟩
def zawp:=EndD.mk (LQ.map (LQ.kp 0 0 (LQ.kp 1 0 (LQ.v intP (LQ.kp 3 0 (LQ.v intP (LQ.v intP (LQ.seq (LP.q zc4) (LQ.kp 2 0 (LQ.seq (LP.q zc4) (LQ.v boolP (LQ.v boolP (LQ.v intP (LQ.v intP (LQ.v intP (LQ.k (LQ.c (.own 4)) (LQ.k (LQ.c (.nst 5 .whole)) (LQ.k (LQ.c (.own 6)) (LQ.seq (LP.q (a6L (LP.one boolP))) (LQ.k (LQ.c (.own 7)) (LQ.k (LQ.c (.own 8)) (LQ.v intP (LQ.v boolP (LQ.seq (LP.q zp6) (LQ.v zd (LQ.v zal (LQ.v zhw (LQ.v zb6 (Par.q zt)))))))))))))))))))))))))))) (fun x=>(x.1,x.2.1,x.2.2.1,x.2.2.2.1,(d4 x).1,(⟨(d4 x).2.1,(d4 x).2.2.1,(d4 x).2.2.2.1,(d8 x).1,(d8 x).2.1,(d12 x).2.2.1,(d12 x).2.2.2.1,(d16 x).1,(d8 x).2.2.1,(⟨(d16 x).2.1,(d16 x).2.2,(d8 x).2.2.2.1,(d12 x).1⟩:zcd),(d12 x).2.1⟩:zb))) (fun y=>(y.1,y.2.1,y.2.2.1,y.2.2.2.1,(d4 y).1,(d4 y).2.On,(d4 y).2.Gone,(d4 y).2.Height,(d4 y).2.Time,(d4 y).2.Id,(d4 y).2.Flags,(d4 y).2.Out.Got,(d4 y).2.Out.Closed,(d4 y).2.Seen,(d4 y).2.Set,(d4 y).2.Pending,(d4 y).2.Ripes,(d4 y).2.Out.Said,(d4 y).2.Out.Due)) (fun _=>rfl)) ⟨[0,3,17,18,208,209],[.nilcell 18 5 83 (.powers []),.nilcell 18 7 93 (.ripes []),.nilcell 18 14 9 (.strs []),.nilcell 18 15 3 (.ints [])]⟩ [.cells 99 159,.cells 25 1,.cells 99 159,.cells 64 22,.rows 83,.nest 73 83 false,.rows 93,.rows 9,.rows 3]
def zalp:=EndD.mk (LQ.kp 0 0 (LQ.kp 1 0 (LQ.v intP (LQ.seq (LP.q zc4) (LQ.kp 2 0 (LP.q zc4)))))) ⟨[0,3,17],[]⟩ [.cells 99 159,.cells 25 1,.cells 99 159]
def zaog:St→Option LR:=L1 218 30 3 zawp (.exit 24) zalp (u6 zcs)
def zs141n:=sub (fb Tryz.f20) [0,1,1,1,1,1,1,0,0,1,0,0,1,0,1,1,1,1,1,1,1,1]
theorem zawq:zl (zvj).env 3 zs141n zaog :=
 zd1 (A:=zawo) zvk fM trivial (k:=za5 zs141n) (by kernel_rfl) rfl (by rintro ⟨x0,x1,x2,x3,x4,x5⟩;kernel_rfl)
def zbo (x0:Int) (x1 x2:Wld): Tr ((Int×Wld×Wld)⊕((Bool×Wld×Wld)⊕(Wld×Wld))) :=
 (.ite (decide (x0 < 2))
  (.bind (z9 x0 x1) fun v11 =>
  (.guard ((z9 x0 x2).isSome=true)
  (.guard ((zfx v11.1 ((z9 x0 x2).getD default).1).isSome=true)
  (.ite (!((zfx v11.1 ((z9 x0 x2).getD default).1).getD default))
   (.leaf (.inr (.inl (false,v11.2,((z9 x0 x2).getD default).2))))
   (.bind (zgk x0 ((v11.1.Set.length:Nat):Int) 0 v11.2 ((z9 x0 x2).getD default).2 v11.1) fun v12 =>
   (.bind (zgm v12.1 ((v12.2.2.2.Pending.length:Nat):Int) 0 v12.2.1 v12.2.2.1 v12.2.2.2) fun v14 =>
   (.bind (zgn v14.1 ((v14.2.2.2.Ripes.length:Nat):Int) 0 v14.2.1 v14.2.2.1 v14.2.2.2) fun v15 =>
   (.bind (zgo v15.1 ((v15.2.2.2.Out.Said.length:Nat):Int) 0 v15.2.1 v15.2.2.1 v15.2.2.2) fun v16 =>
   (.leaf (.inl (i64.wrap (v16.1+1),v16.2.1,v16.2.2)))))))))))
  (.leaf (.inr (.inr (x1,x2)))))
def zgp (x0:Int) (x1 x2:Wld):=zcv (fun s:Int×Wld×Wld=>(zbo s.1 s.2.1 s.2.2).run) (x0,x1,x2)
def zawr:Ann:=⟨[([0,1,0,1,1,0,0,1,0,0,1,0,1,1,1,1,1,1,1,1],zaoc),([0,1,0,1,1,1,0,0,1,0,0,1,0,1,1,1,1,1,1,1,1],zaoe),([0,1,0,1,1,1,1,0,0,1,0,0,1,0,1,1,1,1,1,1,1,1],zaof),([0,1,1,1,1,1,1,0,0,1,0,0,1,0,1,1,1,1,1,1,1,1],zaog)],[],[],zvi,[]⟩
def zaws:=EndD.mk (LQ.kp 0 0 (LQ.kp 1 0 (LQ.v intP (LQ.seq (LP.q zc4) (LQ.kp 2 0 (LP.q zc4)))))) ⟨[0,3,17],[]⟩ [.cells 99 159,.cells 25 1,.cells 99 159]
def zalq:=EndD.mk (LQ.v boolP (LQ.seq (LP.q zc4) (LQ.kp 2 0 (LP.q zc4)))) ⟨[7],[]⟩ [.cells 99 159,.cells 25 1,.cells 99 159]
def zalr:=EndD.mk (LQ.seq (LP.q zc4) (LQ.kp 2 0 (LP.q zc4))) ⟨[],[]⟩ [.cells 99 159,.cells 25 1,.cells 99 159]
def zaoh:St→Option LR:=L2 218 30 3 zaws .ret zalq (.exit 14) zalr (u3 zbo)
def zs141o:=sub (fb Tryz.f20) [0,1,0,1,1,1,1,1,1,1,1]
theorem zawt:zl (zvj).env 3 zs141o zaoh :=
 zmq (A:=zawr) zvk fM ⟨zawe,zawk,zawn,zawq,trivial⟩ (k:=za5 zs141o) (by kernel_rfl) rfl rfl (by rintro ⟨x0,x1,x2⟩;kernel_rfl)
def zlp (a0:Deed) (a1:Reply) (a2 a3:Wld): Tr (Bool×Wld×Wld) :=
 (.guard ((zx a0 a3).isSome=true)
 (.ite (!((((zx a0 a3).getD default).1.Code==a1.Code)&&((((zx a0 a3).getD default).1.N==a1.N)&&true)))
  (.leaf (false,a2,((zx a0 a3).getD default).2))
  (.bind (z8 a2) fun v1 =>
  (.guard ((z8 ((zx a0 a3).getD default).2).isSome=true)
  (.guard ((zfw v1.1 ((z8 ((zx a0 a3).getD default).2).getD default).1).isSome=true)
  (.ite (!((zfw v1.1 ((z8 ((zx a0 a3).getD default).2).getD default).1).getD default))
   (.leaf (false,v1.2,((z8 ((zx a0 a3).getD default).2).getD default).2))
   (.bind (zha ((v1.1.Stake.Waits.length:Nat):Int) 0 v1.2 ((z8 ((zx a0 a3).getD default).2).getD default).2 v1.1) fun v2 =>
   (.bind (zhb ((v2.2.2.Set.length:Nat):Int) 0 v2.1 v2.2.1 v2.2.2) fun v3 =>
   (.bind (zhc ((v3.2.2.Links.Told.x0.length:Nat):Int) 0 v3.1 v3.2.1 v3.2.2) fun v4 =>
   (.bind (zhd ((v4.2.2.Links.Done.x0.length:Nat):Int) 0 v4.1 v4.2.1 v4.2.2) fun v5 =>
   (.bind (zhe ((v5.2.2.Links.Said.x0.length:Nat):Int) 0 v5.1 v5.2.1 v5.2.2) fun v6 =>
   (.bind (zhf ((v6.2.2.Links.Told.x1.length:Nat):Int) 0 v6.1 v6.2.1 v6.2.2) fun v7 =>
   (.bind (zhg ((v7.2.2.Links.Done.x1.length:Nat):Int) 0 v7.1 v7.2.1 v7.2.2) fun v8 =>
   (.bind (zhh ((v8.2.2.Links.Said.x1.length:Nat):Int) 0 v8.1 v8.2.1 v8.2.2) fun v9 =>
   (.bind (zhi ((v9.2.2.Queue.length:Nat):Int) 0 v9.1 v9.2.1 v9.2.2) fun v10 =>
   (.two (zgp 0 v10.1 v10.2) (fun v17 =>
    (.leaf (v17.1,v17.2.1,v17.2.2))) (fun v18 =>
    (.leaf (true,v18.1,v18.2)))))))))))))))))))
def zbb (a0:Deed) (a1:Reply) (a2 a3:Wld):=(zlp a0 a1 a2 a3).run
def zys:=(LQ.v boolP (LQ.seq (LP.q zc4) (LQ.kp 2 0 (LP.q zc4))))
def zrp:SpecT:=zu 3 (LQ.kp 0 0 (LQ.v (Par.ofLP deedL) (LQ.v (Par.ofLP z0c) (LQ.kp 1 0 (LQ.seq (LP.q zc4) (LQ.kp 2 0 (LP.q zc4))))))) 4 [.cells 99 159,.cells 25 1,.cells 99 159] (u4 zlp) default zys 1 [.cells 99 159,.cells 25 1,.cells 99 159]
theorem zyt:zg Tryz.prog 20 (zrp).spec :=
 sK (A:=⟨[([0,1,0,1,1,1,1],zan3),([0,1,0,1,1,1,1,1],zan4),([0,1,0,1,1,0,0,1,1,4,0,1,0,1,1,1,1,1,1],zan5),([0,1,0,1,1,1,0,0,1,1,4,0,1,0,1,1,1,1,1,1],zan6),([0,1,1,1,1,1,0,0,1,1,4,0,1,0,1,1,1,1,1,1],zan7),([0,1,0,1,1,0,0,1,1,3,0,1,0,1,1,1,1,1,1],zan8),([0,1,0,1,1,1,0,0,1,1,3,0,1,0,1,1,1,1,1,1],zan9),([0,1,1,1,1,1,0,0,1,1,3,0,1,0,1,1,1,1,1,1],zaoa),([0,1,0,1,1,1,1,1,1,1],zaob),([0,1,0,1,1,1,1,1,1,1,1],zaoh)],[([0,1,0,1,1,1,1,1,1],3)],[[0,1,2,0,1,0,1,1,1,1,1,1],[0,1,3,0,1,0,1,1,1,1,1,1],[0,1,4,0,1,0,1,1,1,1,1,1]],zvi,[]⟩) zvk fM Tryz.func20 (c:=(fb Tryz.f20)) (by kernel_rfl) (Lc:=3) ⟨zavn,zavq,zavt,zavw,zavz,zav2,zav5,zav8,zawb,zawt,trivial⟩ _ _ 30 _ _ _ _ _ _ [.pubN 0,.pubN 2] (by rintro ⟨a0,a1,a2,a3⟩;kernel_rfl)
def zawu:List (List Nat):=[[0,1],[0,1,10],[4,5],[0,1,6],[0,1,6,7],[0,1,6,7,19],[0,1,6,7],[0,1,6,7,8],[0,1,6,7,36],[4,5],[4,5]]
noncomputable def zawv:EnvT:=⟨Tryz.prog,zad [(23,z2t),(19,zsr),(17,zi3),(20,zrp)],false⟩
theorem zaww:(zawv).Ok:=zf ⟨z9a,zuf,zlo,zyt,trivial⟩
def zff (x0:(List Deed)) (x1:Int) (x2 x3:Wld): Tr (((List Deed)×Int×Wld×Wld)⊕((Bool×Wld×Wld)⊕(Wld×Wld))) :=
 (.ite ((decide (x1 < ((x0.length:Nat):Int)))&&(decide (x1 < 120)))
  (.guard ((0:Int)≤x1∧x1 < ((Sl.len (.deeds x0):Nat):Int))
  (.bind (zx (x0.getD x1.toNat default) x3) fun v3 =>
  (.guard ((0:Int)≤x1∧x1 < ((Sl.len (.deeds x0):Nat):Int))
  (.guard ((zbb (x0.getD x1.toNat default) v3.1 v3.2 x2).isSome=true)
  (.ite (!((zbb (x0.getD x1.toNat default) v3.1 v3.2 x2).getD default).1)
   (.leaf (.inr (.inl (false,((zbb (x0.getD x1.toNat default) v3.1 v3.2 x2).getD default).2.2,((zbb (x0.getD x1.toNat default) v3.1 v3.2 x2).getD default).2.1))))
   (.leaf (.inl (x0,i64.wrap (x1+1),((zbb (x0.getD x1.toNat default) v3.1 v3.2 x2).getD default).2.2,((zbb (x0.getD x1.toNat default) v3.1 v3.2 x2).getD default).2.1))))))))
  (.leaf (.inr (.inr (x2,x3)))))
def zko (x0:(List Deed)) (x1:Int) (x2 x3:Wld):=zcv (fun s:(List Deed)×Int×Wld×Wld=>(zff s.1 s.2.1 s.2.2.1 s.2.2.2).run) (x0,x1,x2,x3)
def zawx:Ann:=⟨[],[],[],zawu,[]⟩
def zawy:=EndD.mk (LQ.v deedsP (LQ.k (LQ.c (.fn 20 [.ptr 0 0])) (LQ.kp 2 0 (LQ.v intP (LQ.kp 1 0 (LQ.seq (LP.q zc4) (LP.q zc4))))))) ⟨[0,1,6,7],[.pub 0,.nilsl 0 (.deeds [])]⟩ [.cells 25 1,.cells 99 159,.cells 99 159]
def zals:=EndD.mk (LQ.kp 2 0 (LQ.v boolP (LQ.kp 1 0 (LQ.seq (LP.q zc4) (LP.q zc4))))) ⟨[4,5],[.pubB 4]⟩ [.cells 25 1,.cells 99 159,.cells 99 159]
def zalt:=EndD.mk (LQ.kp 2 0 (LQ.kp 1 0 (LQ.seq (LP.q zc4) (LP.q zc4)))) ⟨[6],[]⟩ [.cells 25 1,.cells 99 159,.cells 99 159]
def zaoi:St→Option LR:=L2 39 6 2 zawy .ret zals (.exit 0) zalt (u4 zff)
def zs142a:=sub (fb Tryz.f8) [0,1,0,1,1,1]
theorem zawz:zl (zawv).env 2 zs142a zaoi :=
 zmq (A:=zawx) zaww fM trivial (k:=za5 zs142a) (by kernel_rfl) rfl rfl (by rintro ⟨x0,x1,x2,x3⟩;kernel_rfl)
def zq4 (a0:(List Deed)) (a1:Wld): Tr (Bool×Wld×Wld) :=
 (.bind (zul) fun v1 =>
 (.ite (!v1)
  .fail
  (.bind (zmi) fun v2 =>
  (.two (zko a0 0 a1 v2) (fun v4 =>
   (.leaf (v4.1,v4.2.1,v4.2.2))) (fun v5 =>
   (.leaf (true,v5.1,v5.2)))))))
def zup (a0:(List Deed)) (a1:Wld):=(zq4 a0 a1).run
def z2v:=(LQ.kp 2 0 (LQ.v boolP (LQ.kp 1 0 (LQ.seq (LP.q zc4) (LP.q zc4)))))
def zv3:SpecT:=zu 2 (LQ.v deedsP (LQ.k (LQ.c (.fn 20 [.ptr 0 0])) (LQ.kp 1 0 (LP.q zc4)))) 2 [.cells 25 1,.cells 99 159] (u2 zq4) default z2v 2 [.cells 25 1,.cells 99 159,.cells 99 159]
theorem z2w:zg Tryz.prog 8 (zv3).spec :=
 sK (A:=⟨[([0,1,0,1,1,1],zaoi)],[],[],zawu,[]⟩) zaww fM Tryz.func8 (c:=(fb Tryz.f8)) (by kernel_rfl) (Lc:=2) ⟨zawz,trivial⟩ _ _ 6 _ _ _ _ _ _ [.pubN 1,.pubB 4] (by rintro ⟨a0,a1⟩;kernel_rfl)
noncomputable def za3m:EnvT:=⟨Tryz.prog,zad [(19,zsr),(8,zv3)],false⟩
theorem za3n:(za3m).Ok:=zf ⟨zuf,z2w,trivial⟩
def zo7 (a0:(List Deed)): Tr (Bool) :=
 (.bind (zmi) fun v1 =>
 (.bind (zup a0 v1) fun v2 =>
 (.leaf v2.1)))
def zi4 (a0:(List Deed)):=(zo7 a0).run
def qr_top_TopMemory:=(Par.q boolP)
def z2x:SpecT:=zu 0 (Par.q deedsP) 1 [] zo7 default qr_top_TopMemory 1 []
theorem z03:zg Tryz.prog 7 (z2x).spec :=
 sK (A:=⟨[],[],[],[[0],[0,3],[5],[2]],[]⟩) za3n fM Tryz.func7 (c:=(fb Tryz.f7)) (by kernel_rfl) (Lc:=0) trivial _ _ 5 _ _ _ _ _ _ [] (by rintro a0;kernel_rfl)
end
