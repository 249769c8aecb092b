/-
  The functions, each by its tree.
-/
import Derived.Test.YtobfadhgiaphnaaGreatXAbFun
import Derived.Test.YtobfadhgiaphnaaGreatXAbStructs
import Derived.Test.YtobfadhgiaphnaaGreatXFBank
import Derived.Test.YtobfadhgiaphnaaGreatXFCodec
import Derived.Test.YtobfadhgiaphnaaGreatXFLine
import Derived.Test.YtobfadhgiaphnaaGreatXFRatio
import Derived.Test.YtobfadhgiaphnaaGreatXFRefA
import Derived.Test.YtobfadhgiaphnaaGreatXFRefB
import Derived.Test.YtobfadhgiaphnaaGreatXFRefC
import Derived.Test.YtobfadhgiaphnaaGreatXFRefP
import Derived.Test.YtobfadhgiaphnaaGreatXFacts
namespace Go.Proofs.YtobfadhgiaphnaaGreat.Ab
open Go Go.RowKit
set_option maxRecDepth 100000
set_option linter.unusedVariables false
set_option linter.unusedSimpArgs false
noncomputable section
noncomputable def zbj3:EnvT:=⟨Tryz.prog,zw [(17,zwo)]⟩
theorem zbj4:(zbj3).Ok:=zd ⟨z50,trivial⟩
def zvv  : Tr (zt5) :=
 (.bind (znn) fun v1 =>
 (.leaf (⟨0,0,v1,(default:zd9),(default:z18),(default:z18)⟩:zt5)))
def ztm  := (zvv ).run
def z2t:SpecT:=zm 0 LQ.nil 0 [] (fun s=>zvv ) default (LQ.kp 0 0 (LP.q zv2)) 1 [.cells 77 159]
theorem zabj:ze Tryz.prog 7 (z2t).spec :=
 sK (A:=⟨[],[],[],[[],[0]],[]⟩) zbj4 fM Tryz.func7 (c:=(fb Tryz.f7)) (by kernel_rfl) (Lc:=0) trivial _ _ 3 _ _ _ _ _ _ [.pubB 0] (by rintro _;kernel_rfl)
def zqz (a0:Int): Tr (Reply) :=
 (.leaf (⟨a0,0⟩:Reply))
def z7 (a0:Int):=(zqz a0).run
def zyx:SpecT:=zm 0 (Par.q intP) 1 [] zqz default (Par.q (Par.ofLP zhm)) 1 []
theorem z7j:ze Tryz.prog 18 (zyx).spec :=
 sK (A:=⟨[],[],[],[[0,2],[2]],[]⟩) zhN fM Tryz.func18 (c:=(fb Tryz.f18)) (by kernel_rfl) (Lc:=0) trivial _ _ 3 _ _ _ _ _ _ [] (by rintro a0;kernel_rfl)
def zjp (a0:Int): Tr (Reply) :=
 (.leaf (⟨a0,0⟩:Reply))
def zdb (a0:Int):=(zjp a0).run
def zp3:SpecT:=zm 0 (Par.q intP) 1 [] zjp default (Par.q (Par.ofLP zhm)) 1 []
theorem zy8:ze Tryz.prog 71 (zp3).spec :=
 sK (A:=⟨[],[],[],[[0,2],[2]],[]⟩) zhN fM Tryz.func71 (c:=(fb Tryz.f71)) (by kernel_rfl) (Lc:=0) trivial _ _ 3 _ _ _ _ _ _ [] (by rintro a0;kernel_rfl)
def zawf:List (List Nat):=[[0,3,4],[0,3,4,5],[0,3,4,5,6,7],[0,3,4,5,6,7,8,9],[0,3,4,5,6,7,8,9,39],[0,3,4,5,6,7,8,9],[0,3,4,5,6,7,8,9,10],[0,3,4,5,6,7,8,9,10,54],[0,3,4,5,6,7,8,9,10],[0,3,4,5,6,7,8,9,10,62],[0,3,4,5,6,7,8,9,10],[0,3,4,5,6,7,8,10,11],[0,3,4,5,6,7,8,10,11,86],[4],[0,3,4,5,6,7,8,10,91],[0,4,5,6,8,12,13],[0,4,5,6,8,12,13,104],[4],[4,6,8],[4,8],[4,5,6,7,8,14,15],[4,5,6,7,8,14,15,125],[4],[4,7,8],[4,8],[4]]
noncomputable def zawg:EnvT:=⟨Tryz.prog,zw [(64,ziw),(72,z5p),(71,zp3),(73,zuo),(74,zul)]⟩
theorem zawh:(zawg).Ok:=zd ⟨zlr,zadb,zy8,z36,z33,trivial⟩
def zir (x0 x1 x2:Int) (x3:Bool) (x4:zt5) (x5:Deed) (x6:Reply) (x7:zcl): Tr (Int×Int×Int×zt5×Deed×Reply×zcl) :=
 (.ite (x3)
  (.leaf (x0,x1,x4.P.Links.SSaid.get x1,x4,x5,x6,(zc x4.C x0).Out))
  (.leaf (x0,x1,x2,x4,x5,x6,x7)))
def zhf (x0 x1 x2:Int) (x3:Bool) (x4:zt5) (x5:Deed) (x6:Reply) (x7:zcl):=(zir x0 x1 x2 x3 x4 x5 x6 x7).run
def zbb0:Ann:=⟨[],[],[],zawf,[]⟩
def zbb1:=EndD.mk (LQ.kp 0 0 (LQ.kp 1 0 (LQ.kp 2 0 (LQ.k (LQ.c (.fn 71 [])) (LQ.seq (LQ.pix1 0 99 2 22 0) (LQ.seq (LQ.pix1 0 68 2 14 0) (LQ.kp 3 0 (LQ.v intP (LQ.v boolP (LQ.seq (LP.q zv2) (LQ.seq (LP.q deedL) (LQ.seq (LP.q zhm) (LP.q lineL))))))))))))) ⟨[0,3,4,5,6,7,8,9,39],[]⟩ [.cells 77 159,.cells 28 7,.cells 32 2,.cells 53 4]
def zawi:=EndD.mk (LQ.kp 0 0 (LQ.kp 1 0 (LQ.kp 2 0 (LQ.k (LQ.c (.fn 71 [])) (LQ.seq (LQ.pix1 0 99 2 22 0) (LQ.seq (LQ.pix1 0 68 2 14 0) (LQ.kp 3 0 (LQ.v intP (LQ.seq (LP.q zv2) (LQ.seq (LP.q deedL) (LQ.seq (LP.q zhm) (LP.q lineL)))))))))))) ⟨[0,3,4,5,6,7,8,9],[]⟩ [.cells 77 159,.cells 28 7,.cells 32 2,.cells 53 4]
def za0d:St→Option LR:=M1 139 7 1 zbb1 .normal zawi (u8 zir)
def zs200a:=sub (fb Tryz.f29) [1,0,1,1,1,1]
theorem zbb2:zk (zawg).env 1 zs200a za0d :=
 za08 (A:=zbb0) zawh fM trivial (cd:=zaq0 zs200a) (k:=zaq1 zs200a) (l:=zaq2 zs200a) (by kernel_rfl) (by rintro ⟨x0,x1,x2,x3,x4,x5,x6,x7⟩;kernel_rfl)
def zis (x0 x1 x2:Int) (x3:ByteArray) (x4:Bool) (x5:zt5) (x6:Deed) (x7:Reply) (x8:zcl): Tr (Int×Int×Int×ByteArray×zt5×Deed×Reply×zcl) :=
 (.ite (x4)
  (.guard ((0:Int)≤x8.Got∧x8.Got < ((Sl.len (.strs x8.Said):Nat):Int))
  (.leaf (x0,x1,x2,x8.Said.getD x8.Got.toNat .empty,x5,x6,x7,x8)))
  (.leaf (x0,x1,x2,x3,x5,x6,x7,x8)))
def zhg (x0 x1 x2:Int) (x3:ByteArray) (x4:Bool) (x5:zt5) (x6:Deed) (x7:Reply) (x8:zcl):=(zis x0 x1 x2 x3 x4 x5 x6 x7 x8).run
def zbb3:Ann:=⟨[],[],[],zawf,[]⟩
def zbb4:=EndD.mk (LQ.kp 0 0 (LQ.kp 1 0 (LQ.kp 2 0 (LQ.k (LQ.c (.fn 71 [])) (LQ.seq (LQ.pix1 0 99 2 22 0) (LQ.seq (LQ.pix1 0 68 2 14 0) (LQ.kp 3 0 (LQ.v intP (LQ.v z43 (LQ.v boolP (LQ.seq (LP.q zv2) (LQ.seq (LP.q deedL) (LQ.seq (LP.q zhm) (LP.q lineL)))))))))))))) ⟨[0,3,4,5,6,7,8,9,10,54],[]⟩ [.cells 77 159,.cells 28 7,.cells 32 2,.cells 53 4]
def zawj:=EndD.mk (LQ.kp 0 0 (LQ.kp 1 0 (LQ.kp 2 0 (LQ.k (LQ.c (.fn 71 [])) (LQ.seq (LQ.pix1 0 99 2 22 0) (LQ.seq (LQ.pix1 0 68 2 14 0) (LQ.kp 3 0 (LQ.v intP (LQ.v z43 (LQ.seq (LP.q zv2) (LQ.seq (LP.q deedL) (LQ.seq (LP.q zhm) (LP.q lineL))))))))))))) ⟨[0,3,4,5,6,7,8,9,10],[]⟩ [.cells 77 159,.cells 28 7,.cells 32 2,.cells 53 4]
def za0e:St→Option LR:=M1 139 7 1 zbb4 .normal zawj (u9 zis)
def zs200b:=sub (fb Tryz.f29) [1,0,1,1,1,1,1,1]
theorem zbb5:zk (zawg).env 1 zs200b za0e :=
 za08 (A:=zbb3) zawh fM trivial (cd:=zaq0 zs200b) (k:=zaq1 zs200b) (l:=zaq2 zs200b) (by kernel_rfl) (by rintro ⟨x0,x1,x2,x3,x4,x5,x6,x7,x8⟩;kernel_rfl)
def zit (x0 x1 x2:Int) (x3:ByteArray) (x4:Bool) (x5:zt5) (x6:Deed) (x7:Reply) (x8:zcl): Tr (Int×Int×Int×ByteArray×zt5×Deed×Reply×zcl) :=
 (.ite (x4)
  (.bind (za3 (⟨3,1,0,IntKind.i64.wrap (((x3.size:Nat):Int)+1),[],[]⟩:Packet)) fun v3 =>
  (.leaf (x0,x1,x2,v3.1,x5,x6,x7,x8)))
  (.leaf (x0,x1,x2,x3,x5,x6,x7,x8)))
def zhh (x0 x1 x2:Int) (x3:ByteArray) (x4:Bool) (x5:zt5) (x6:Deed) (x7:Reply) (x8:zcl):=(zit x0 x1 x2 x3 x4 x5 x6 x7 x8).run
def zbb6:Ann:=⟨[],[],[],zawf,[]⟩
def zbb7:=EndD.mk (LQ.kp 0 0 (LQ.kp 1 0 (LQ.kp 2 0 (LQ.k (LQ.c (.fn 71 [])) (LQ.seq (LQ.pix1 0 99 2 22 0) (LQ.seq (LQ.pix1 0 68 2 14 0) (LQ.kp 3 0 (LQ.v intP (LQ.v z43 (LQ.v boolP (LQ.seq (LP.q zv2) (LQ.seq (LP.q deedL) (LQ.seq (LP.q zhm) (LP.q lineL)))))))))))))) ⟨[0,3,4,5,6,7,8,9,10,62],[]⟩ [.cells 77 159,.cells 28 7,.cells 32 2,.cells 53 4]
def zawk:=EndD.mk (LQ.kp 0 0 (LQ.kp 1 0 (LQ.kp 2 0 (LQ.k (LQ.c (.fn 71 [])) (LQ.seq (LQ.pix1 0 99 2 22 0) (LQ.seq (LQ.pix1 0 68 2 14 0) (LQ.kp 3 0 (LQ.v intP (LQ.v z43 (LQ.seq (LP.q zv2) (LQ.seq (LP.q deedL) (LQ.seq (LP.q zhm) (LP.q lineL))))))))))))) ⟨[0,3,4,5,6,7,8,9,10],[]⟩ [.cells 77 159,.cells 28 7,.cells 32 2,.cells 53 4]
def za0f:St→Option LR:=M1 139 7 1 zbb7 .normal zawk (u9 zit)
def zs200c:=sub (fb Tryz.f29) [1,0,1,1,1,1,1,1,1]
theorem zbb8:zk (zawg).env 1 zs200c za0f :=
 za08 (A:=zbb6) zawh fM trivial (cd:=zaq0 zs200c) (k:=zaq1 zs200c) (l:=zaq2 zs200c) (by kernel_rfl) (by rintro ⟨x0,x1,x2,x3,x4,x5,x6,x7,x8⟩;kernel_rfl)
def zl4 (a0:Deed) (a1:zt5): Tr (Reply×zt5) :=
 (.guard ((0:Int)≤a0.C∧(a0.C:Int) < 2)
 (.guard ((0:Int)≤a0.C∧(a0.C:Int) < 2)
 (.bind (zhf a0.C a0.C (a1.C.SSaid.get a0.C) a0.Back a1 a0 (⟨0,0⟩:Reply) (zz a1.P.Links a0.C).Out) fun v1 =>
 (.bind (zhg v1.1 v1.2.1 v1.2.2.1 (⟨#[]⟩:ByteArray) (decide (v1.2.2.2.2.2.2.Got < ((v1.2.2.2.2.2.2.Said.length:Nat):Int))) v1.2.2.2.1 v1.2.2.2.2.1 v1.2.2.2.2.2.1 v1.2.2.2.2.2.2) fun v2 =>
 (.bind (zhh v2.1 v2.2.1 v2.2.2.1 v2.2.2.2.1 v2.2.2.2.2.2.1.Forged v2.2.2.2.2.1 v2.2.2.2.2.2.1 v2.2.2.2.2.2.2.1 v2.2.2.2.2.2.2.2) fun v4 =>
 (.guard ((zah v4.2.2.2.2.2.2.2 (IntKind.i64.wrap (v4.2.2.2.2.2.2.2.Got+1)) v4.2.2.2.1 v4.2.2.1 v4.2.2.2.2.1.Clock).isSome=true)
 (.ite (((zah v4.2.2.2.2.2.2.2 (IntKind.i64.wrap (v4.2.2.2.2.2.2.2.Got+1)) v4.2.2.2.1 v4.2.2.1 v4.2.2.2.2.1.Clock).getD default).2 != 0)
  (.bind (zdb ((zah v4.2.2.2.2.2.2.2 (IntKind.i64.wrap (v4.2.2.2.2.2.2.2.Got+1)) v4.2.2.2.1 v4.2.2.1 v4.2.2.2.2.1.Clock).getD default).2) fun v5 =>
  (.leaf (v5,v4.2.2.2.2.1)))
  (.ite (v4.2.2.2.2.2.1.Back)
   (.guard ((zb9 v4.2.2.2.2.1.P v4.2.2.2.2.2.1.C v4.2.2.2.1).isSome=true)
   (.ite (((zb9 v4.2.2.2.2.1.P v4.2.2.2.2.2.1.C v4.2.2.2.1).getD default).2 != 0)
    (.bind (zdb ((zb9 v4.2.2.2.2.1.P v4.2.2.2.2.2.1.C v4.2.2.2.1).getD default).2) fun v6 =>
    (.leaf (v6,v4.2.2.2.2.1)))
    (.leaf ((⟨0,((zah v4.2.2.2.2.2.2.2 (IntKind.i64.wrap (v4.2.2.2.2.2.2.2.Got+1)) v4.2.2.2.1 v4.2.2.1 v4.2.2.2.2.1.Clock).getD default).1.Got⟩:Reply),{ v4.2.2.2.2.1 with P:=((zb9 v4.2.2.2.2.1.P v4.2.2.2.2.2.1.C v4.2.2.2.1).getD default).1,C:={ v4.2.2.2.2.1.C with Said:=(v4.2.2.2.2.1.C.Said.set v4.1 ((zah v4.2.2.2.2.2.2.2 (IntKind.i64.wrap (v4.2.2.2.2.2.2.2.Got+1)) v4.2.2.2.1 v4.2.2.1 v4.2.2.2.2.1.Clock).getD default).1.Said),Due:=(v4.2.2.2.2.1.C.Due.set v4.1 ((zah v4.2.2.2.2.2.2.2 (IntKind.i64.wrap (v4.2.2.2.2.2.2.2.Got+1)) v4.2.2.2.1 v4.2.2.1 v4.2.2.2.2.1.Clock).getD default).1.Due),Got:=(v4.2.2.2.2.1.C.Got.set v4.1 ((zah v4.2.2.2.2.2.2.2 (IntKind.i64.wrap (v4.2.2.2.2.2.2.2.Got+1)) v4.2.2.2.1 v4.2.2.1 v4.2.2.2.2.1.Clock).getD default).1.Got),Closed:=(v4.2.2.2.2.1.C.Closed.set v4.1 ((zah v4.2.2.2.2.2.2.2 (IntKind.i64.wrap (v4.2.2.2.2.2.2.2.Got+1)) v4.2.2.2.1 v4.2.2.1 v4.2.2.2.2.1.Clock).getD default).1.Closed) } }))))
   (.bind (zhd (zc v4.2.2.2.2.1.C v4.1) v4.2.2.2.1) fun v7 =>
   (.ite (v7.2 != 0)
    (.bind (zdb v7.2) fun v8 =>
    (.leaf (v8,v4.2.2.2.2.1)))
    (.leaf ((⟨0,((zah v4.2.2.2.2.2.2.2 (IntKind.i64.wrap (v4.2.2.2.2.2.2.2.Got+1)) v4.2.2.2.1 v4.2.2.1 v4.2.2.2.2.1.Clock).getD default).1.Got⟩:Reply),{ v4.2.2.2.2.1 with P:={ v4.2.2.2.2.1.P with Links:={ v4.2.2.2.2.1.P.Links with Said:=(v4.2.2.2.2.1.P.Links.Said.set v4.2.1 ((zah v4.2.2.2.2.2.2.2 (IntKind.i64.wrap (v4.2.2.2.2.2.2.2.Got+1)) v4.2.2.2.1 v4.2.2.1 v4.2.2.2.2.1.Clock).getD default).1.Said),Due:=(v4.2.2.2.2.1.P.Links.Due.set v4.2.1 ((zah v4.2.2.2.2.2.2.2 (IntKind.i64.wrap (v4.2.2.2.2.2.2.2.Got+1)) v4.2.2.2.1 v4.2.2.1 v4.2.2.2.2.1.Clock).getD default).1.Due),Got:=(v4.2.2.2.2.1.P.Links.Got.set v4.2.1 ((zah v4.2.2.2.2.2.2.2 (IntKind.i64.wrap (v4.2.2.2.2.2.2.2.Got+1)) v4.2.2.2.1 v4.2.2.1 v4.2.2.2.2.1.Clock).getD default).1.Got),Closed:=(v4.2.2.2.2.1.P.Links.Closed.set v4.2.1 ((zah v4.2.2.2.2.2.2.2 (IntKind.i64.wrap (v4.2.2.2.2.2.2.2.Got+1)) v4.2.2.2.1 v4.2.2.1 v4.2.2.2.2.1.Clock).getD default).1.Closed) } },C:=(zo8 v4.2.2.2.2.1.C v4.1 v7.1) }))))))))))))
def zkp (a0:Deed) (a1:zt5):=(zl4 a0 a1).run
def ztn:SpecT:=zm 1 (LQ.kp 0 0 (LQ.v (Par.ofLP deedL) (LP.q zv2))) 2 [.cells 77 159] (u2 zl4) default (LQ.v (Par.ofLP zhm) (LP.q zv2)) 1 [.cells 77 159]
theorem z1z:ze Tryz.prog 29 (ztn).spec :=
 sK (A:=⟨[([1,0,1,1,1,1],za0d),([1,0,1,1,1,1,1,1],za0e),([1,0,1,1,1,1,1,1,1],za0f)],[],[],zawf,[]⟩) zawh fM Tryz.func29 (c:=(fb Tryz.f29)) (by kernel_rfl) (Lc:=1) ⟨zbb2,zbb5,zbb8,trivial⟩ _ _ 7 _ _ _ _ _ _ [.pubN 0] (by rintro ⟨a0,a1⟩;kernel_rfl)
def zawl:List (List Nat):=[[0,3,4],[0,3,4,5],[0,3,4,5,17],[4],[0,3,4,5],[0,3,4,5,6],[0,3,4,5,6,28],[0,3,4,5,6,28,29],[4,5,6],[4],[0,3,4,5,6,28,51],[4,5,6],[4],[0,3,4,5,6,28,77],[4,5,6],[4],[0,3,4,5,6,28,97],[4,5,6],[4],[0,3,4,5,6,28,117],[0,3,4,5,131],[4],[0,4],[4],[0,3,4,5,6,148],[0,4,5],[0,4,5,6,7],[0,4,5,6,7,167],[4],[0,4,7,171],[0,4,7,171,172],[0,4,7,8,171],[0,4,7,171],[0,4,7,171],[4],[0,3,4,5,6,219],[4],[0,3,4,5,6,229],[4],[0,3,4,5,6,234],[0,3,4,5,9,10],[0,3,4,5,9,10,246],[4],[0,3,4,9],[4,9],[4],[0,3,4,5,6,294],[4],[0,3,4,5,6,11],[0,3,4,5,6,11,12],[0,3,4,5,6,11,12,311],[0,3,4,5,6,11,12,311,312],[0,3,4,5,6,11,12],[0,3,4,5,6,11,12,328],[4,5,6],[0,3,4,5,6,11,12,311,355],[0,3,4,5,6,11,12,358],[4,5,6],[4,5,6],[0,3,4,5,6,11,12,311,379],[4,5,6],[0,3,4,5,6,11,12,311,396],[4,5,6],[0,3,4,5,6,11,12,311,415],[4],[0,3,4,5,6,11,12,420],[0,3,4,5,11,12,423],[0,3,4,5,6,11],[0,3,4,5,6,11],[0,3,4,5,6,11,465],[4,5,6],[4]]
noncomputable def zawm:EnvT:=⟨Tryz.prog,zw [(18,zyx),(19,zn0),(20,zmd),(21,zx4),(22,z2q),(23,zwp),(24,zabf),(25,ztj),(26,zwn),(27,z8g),(28,z2p),(29,ztn),(30,z8a),(31,z8h),(32,zq9)]⟩
theorem zawn:(zawm).Ok:=zd ⟨z7j,zya,zvr,z0p,zabg,z51,zail,z1y,z5z,zagh,zabe,z1z,zagd,zagi,z0s,trivial⟩
def zeq (x0:(List Int)) (x1:Int) (x2:zt5) (x3:Reply): Tr (((List Int)×Int×zt5×Reply)⊕((List Int)×zt5×Reply)) :=
 (.ite (decide (x1 < 2))
  (.guard ((0:Int)≤x1∧(x1:Int) < 2)
  (.guard ((0:Int)≤x1∧(x1:Int) < 2)
  (.guard ((0:Int)≤x1∧(x1:Int) < 2)
  (.leaf (.inl (x0,IntKind.i64.wrap (x1+1),{ x2 with HeadP:=(⟨(x2.HeadP.Height.set x1 x2.P.Height),(x2.HeadP.Time.set x1 x2.P.Time),(x2.HeadP.Said.set x1 (((x2.P.Links.Said.get x1).length:Nat):Int)),(x2.HeadP.Got.set x1 (x2.C.Got.get x1))⟩:z18) },x3))))))
  (.leaf (.inr (x0,x2,x3))))
def zi1 (x0:(List Int)) (x1:Int) (x2:zt5) (x3:Reply):=zbp (fun s:(List Int)×Int×zt5×Reply=>(zeq s.1 s.2.1 s.2.2.1 s.2.2.2).run) (x0,x1,x2,x3)
def zbb9:Ann:=⟨[],[],[],zawl,[]⟩
def zbca:=EndD.mk (LQ.kp 0 0 (LQ.kp 1 0 (LQ.v zbc (LQ.v intP (LQ.seq (LP.q zv2) (LP.q zhm)))))) ⟨[0,4,7,171],[.pub 7,.nilsl 7 (.ints [])]⟩ [.cells 77 159,.cells 32 2]
def zawo:=EndD.mk (LQ.kp 1 0 (LQ.v zbc (LQ.seq (LP.q zv2) (LP.q zhm)))) ⟨[4,7],[.pub 7,.nilsl 7 (.ints [])]⟩ [.cells 77 159,.cells 32 2]
def za0g:St→Option LR:=L1 485 6 1 zbca (.exit 1) zawo (u4 zeq)
def zs201a:=sub (fb Tryz.f8) [0,1,0,1,1,1,0,1,1,1,1,1,1,1,1,1,1,1,0,1,0,1,1,1,1,1]
theorem zbcb:zk (zawm).env 1 zs201a za0g :=
 zb2 (A:=zbb9) zawn fM trivial (k:=zab zs201a) (by kernel_rfl) rfl (by rintro ⟨x0,x1,x2,x3⟩;kernel_rfl)
def zov (x0:Int) (x1:Bool) (x2:zt5) (x3:Deed) (x4:Reply): Tr ((zt5×Reply)⊕(Int×zt5×Deed×Reply)) :=
 (.ite (x1)
  (.guard ((zc7 x2.P x3.C).isSome=true)
  (.ite (((zc7 x2.P x3.C).getD default).2 != 0)
   (.bind (z7 ((zc7 x2.P x3.C).getD default).2) fun v11 =>
   (.leaf (.inl (x2,v11))))
   (.guard ((zf3 ((zc7 x2.P x3.C).getD default).1.Set ((zc7 x2.P x3.C).getD default).1.Height x2.Clock).isSome=true)
   (.guard ((0:Int)≤x3.C∧(x3.C:Int) < 2)
   (.guard ((0:Int)≤x3.C∧(x3.C:Int) < 2)
   (.guard ((0:Int)≤x3.C∧(x3.C:Int) < 2)
   (.leaf (.inl ((⟨x2.Clock,x2.Deeds,((zc7 x2.P x3.C).getD default).1,(zo8 x2.C x3.C ((zf3 ((zc7 x2.P x3.C).getD default).1.Set ((zc7 x2.P x3.C).getD default).1.Height x2.Clock).getD default)),(⟨(x2.HeadP.Height.set x3.C 0),(x2.HeadP.Time.set x3.C 0),(x2.HeadP.Said.set x3.C 0),(x2.HeadP.Got.set x3.C 0)⟩:z18),(⟨(x2.HeadC.Height.set x3.C 0),(x2.HeadC.Time.set x3.C 0),(x2.HeadC.Said.set x3.C 0),(x2.HeadC.Got.set x3.C 0)⟩:z18)⟩:zt5),(⟨0,((zc7 x2.P x3.C).getD default).1.Height⟩:Reply))))))))))
  (.leaf (.inr (x0,x2,x3,x4))))
def znp (x0:Int) (x1:Bool) (x2:zt5) (x3:Deed) (x4:Reply):=(zov x0 x1 x2 x3 x4).run
def zbcc:Ann:=⟨[],[],[],zawl,[]⟩
def zbcd:=EndD.mk (LQ.kp 0 0 (LQ.kp 1 0 (LQ.kp 2 0 (LQ.k (LQ.c (.fn 18 [])) (LQ.v intP (LQ.v boolP (LQ.seq (LP.q zv2) (LQ.seq (LP.q deedL) (LP.q zhm))))))))) ⟨[0,3,4,5,6,234],[]⟩ [.cells 77 159,.cells 28 7,.cells 32 2]
def zawp:=EndD.mk (LQ.kp 1 0 (LQ.seq (LP.q zv2) (LP.q zhm))) ⟨[4],[.pubB 4]⟩ [.cells 77 159,.cells 32 2]
def zawq:=EndD.mk (LQ.kp 0 0 (LQ.kp 1 0 (LQ.kp 2 0 (LQ.k (LQ.c (.fn 18 [])) (LQ.v intP (LQ.seq (LP.q zv2) (LQ.seq (LP.q deedL) (LP.q zhm)))))))) ⟨[0,3,4,5,6],[]⟩ [.cells 77 159,.cells 28 7,.cells 32 2]
def za0h:St→Option LR:=M2 485 6 1 zbcd .ret zawp .normal zawq (u5 zov)
def zs201b:=sub (fb Tryz.f8) [1,0,1,1,1,1,1,1,1,1]
theorem zbce:zk (zawm).env 1 zs201b za0h :=
 za46 (A:=zbcc) zawn fM trivial (cd:=zaq0 zs201b) (k:=zaq1 zs201b) (l:=zaq2 zs201b) (by kernel_rfl) (by rintro ⟨x0,x1,x2,x3,x4⟩;kernel_rfl)
def zow (x0 x1 x2 x3:Int) (x4:Bool) (x5:zt5) (x6:Deed) (x7:Reply): Tr ((Int×zt5×Reply)⊕(zt5×Reply)) :=
 (.ite (x4)
  (.guard ((zac (zc x5.C x1) x5.Clock).isSome=true)
  (.ite (((zac (zc x5.C x1) x5.Clock).getD default).2==0)
   (.guard ((0:Int)≤x6.C∧(x6.C:Int) < 2)
   (.leaf (.inl (((zac (zc x5.C x1) x5.Clock).getD default).2,{ x5 with C:=(zo8 x5.C x1 ((zac (zc x5.C x1) x5.Clock).getD default).1),HeadC:=(⟨(x5.HeadC.Height.set x6.C ((x5.C.Height.set x1 ((zac (zc x5.C x1) x5.Clock).getD default).1.Height).get x1)),(x5.HeadC.Time.set x6.C ((x5.C.Time.set x1 ((zac (zc x5.C x1) x5.Clock).getD default).1.Time).get x1)),(x5.HeadC.Said.set x6.C ((((x5.C.Said.set x1 ((zac (zc x5.C x1) x5.Clock).getD default).1.Out.Said).get x1).length:Nat):Int)),(x5.HeadC.Got.set x6.C (x5.P.Links.Got.get x2))⟩:z18) },x7))))
   (.leaf (.inl (((zac (zc x5.C x1) x5.Clock).getD default).2,{ x5 with C:=(zo8 x5.C x1 ((zac (zc x5.C x1) x5.Clock).getD default).1) },x7)))))
  (.ite (x3==8)
   (.ite (x6.Back)
    (.guard ((0:Int)≤x6.C∧(x6.C:Int) < 2)
    (.leaf (.inl (x0,{ x5 with P:={ x5.P with Links:={ x5.P.Links with SHeight:=(x5.P.Links.SHeight.set x2 (x5.HeadC.Height.get x6.C)),STime:=(x5.P.Links.STime.set x2 (x5.HeadC.Time.get x6.C)),SSaid:=(x5.P.Links.SSaid.set x2 (x5.HeadC.Said.get x6.C)),SGot:=(x5.P.Links.SGot.set x2 (x5.HeadC.Got.get x6.C)) } } },x7))))
    (.guard ((0:Int)≤x6.C∧(x6.C:Int) < 2)
    (.leaf (.inl (x0,{ x5 with C:={ x5.C with SHeight:=(x5.C.SHeight.set x1 (x5.HeadP.Height.get x6.C)),STime:=(x5.C.STime.set x1 (x5.HeadP.Time.get x6.C)),SSaid:=(x5.C.SSaid.set x1 (x5.HeadP.Said.get x6.C)),SGot:=(x5.C.SGot.set x1 (x5.HeadP.Got.get x6.C)) } },x7)))))
   (.ite (x3==11)
    (.guard ((zj8 (zc x5.C x1) x6.V x5.Clock).isSome=true)
    (.leaf (.inl (((zj8 (zc x5.C x1) x6.V x5.Clock).getD default).2,{ x5 with C:=(zo8 x5.C x1 ((zj8 (zc x5.C x1) x6.V x5.Clock).getD default).1) },x7))))
    (.ite (x3==12)
     (.guard ((zgn (zc x5.C x1) x6.V x6.N x5.Clock).isSome=true)
     (.leaf (.inl (((zgn (zc x5.C x1) x6.V x6.N x5.Clock).getD default).2,{ x5 with C:=(zo8 x5.C x1 ((zgn (zc x5.C x1) x6.V x6.N x5.Clock).getD default).1) },x7))))
     (.ite (x3==9)
      (.bind (zkp x6 x5) fun v15 =>
      (.leaf (.inr (v15.2,v15.1))))
      (.ite (x3==10)
       (.ite (x6.Back)
        (.guard ((zb3 (zc x5.C x1).Out x6.N (x5.C.STime.get x1) (x5.C.SGot.get x1)).isSome=true)
        (.ite (((zb3 (zc x5.C x1).Out x6.N (x5.C.STime.get x1) (x5.C.SGot.get x1)).getD default).2==0)
         (.guard ((zhe x5.P x6.C).isSome=true)
         (.guard ((zbh (zc x5.C x1)).isSome=true)
         (.leaf (.inl (((zb3 (zc x5.C x1).Out x6.N (x5.C.STime.get x1) (x5.C.SGot.get x1)).getD default).2,{ x5 with P:=((zhe x5.P x6.C).getD default),C:=(zo8 x5.C x1 ((zbh (zc x5.C x1)).getD default)) },x7)))))
         (.leaf (.inl (((zb3 (zc x5.C x1).Out x6.N (x5.C.STime.get x1) (x5.C.SGot.get x1)).getD default).2,x5,x7)))))
        (.guard ((zb3 (zz x5.P.Links x2).Out x6.N (x5.P.Links.STime.get x2) (x5.P.Links.SGot.get x2)).isSome=true)
        (.ite (((zb3 (zz x5.P.Links x2).Out x6.N (x5.P.Links.STime.get x2) (x5.P.Links.SGot.get x2)).getD default).2==0)
         (.guard ((zhe x5.P x6.C).isSome=true)
         (.guard ((zbh (zc x5.C x1)).isSome=true)
         (.leaf (.inl (((zb3 (zz x5.P.Links x2).Out x6.N (x5.P.Links.STime.get x2) (x5.P.Links.SGot.get x2)).getD default).2,{ x5 with P:=((zhe x5.P x6.C).getD default),C:=(zo8 x5.C x1 ((zbh (zc x5.C x1)).getD default)) },x7)))))
         (.leaf (.inl (((zb3 (zz x5.P.Links x2).Out x6.N (x5.P.Links.STime.get x2) (x5.P.Links.SGot.get x2)).getD default).2,x5,x7))))))
       (.leaf (.inl (x0,x5,x7)))))))))
def znq (x0 x1 x2 x3:Int) (x4:Bool) (x5:zt5) (x6:Deed) (x7:Reply):=(zow x0 x1 x2 x3 x4 x5 x6 x7).run
def zbcf:Ann:=⟨[],[],[],zawl,[]⟩
def zbcg:=EndD.mk (LQ.kp 0 0 (LQ.kp 1 0 (LQ.kp 2 0 (LQ.k (LQ.c (.fn 18 [])) (LQ.v intP (LQ.seq (LQ.pix1 0 99 2 22 0) (LQ.seq (LQ.pix1 0 68 2 14 0) (LQ.v intP (LQ.v boolP (LQ.seq (LP.q zv2) (LQ.seq (LP.q deedL) (LP.q zhm)))))))))))) ⟨[0,3,4,5,6,11,12,311,312],[]⟩ [.cells 77 159,.cells 28 7,.cells 32 2]
def zawr:=EndD.mk (LQ.kp 1 0 (LQ.k (LQ.c (.fn 18 [])) (LQ.v intP (LQ.seq (LP.q zv2) (LP.q zhm))))) ⟨[4,5,6],[]⟩ [.cells 77 159,.cells 32 2]
def zaws:=EndD.mk (LQ.kp 1 0 (LQ.seq (LP.q zv2) (LP.q zhm))) ⟨[4],[.pubB 4]⟩ [.cells 77 159,.cells 32 2]
def za0i:St→Option LR:=M2 485 6 1 zbcg .normal zawr .ret zaws (u8 zow)
def zs201c:=sub (fb Tryz.f8) [1,0,1,0,1,1,1,1,1,1,1,1,1,1,1,1]
theorem zbch:zk (zawm).env 1 zs201c za0i :=
 za46 (A:=zbcf) zawn fM trivial (cd:=zaq0 zs201c) (k:=zaq1 zs201c) (l:=zaq2 zs201c) (by kernel_rfl) (by rintro ⟨x0,x1,x2,x3,x4,x5,x6,x7⟩;kernel_rfl)
def zvw (a0:Deed) (a1:zt5): Tr (Reply×zt5) :=
 (.ite (a1.Deeds==600)
  (.bind (z7 6) fun v1 =>
  (.leaf (v1,a1)))
  (.ite (a0.Kind==1)
   (.guard ((zbm a1.P a0.D a0.V a0.N).isSome=true)
   (.bind (z7 ((zbm a1.P a0.D a0.V a0.N).getD default).2) fun v2 =>
   (.leaf (v2,{ a1 with Deeds:=IntKind.i64.wrap (a1.Deeds+1),P:=((zbm a1.P a0.D a0.V a0.N).getD default).1 }))))
   (.ite (a0.Kind==2)
    (.guard ((za7 a1.P a0.D a0.V a0.N a1.Clock).isSome=true)
    (.bind (z7 ((za7 a1.P a0.D a0.V a0.N a1.Clock).getD default).2) fun v3 =>
    (.leaf (v3,{ a1 with Deeds:=IntKind.i64.wrap (a1.Deeds+1),P:=((za7 a1.P a0.D a0.V a0.N a1.Clock).getD default).1 }))))
    (.ite (a0.Kind==3)
     (.guard ((zfh a1.P.Stake a0.V 1).isSome=true)
     (.bind (z7 ((zfh a1.P.Stake a0.V 1).getD default).2) fun v4 =>
     (.leaf (v4,{ a1 with Deeds:=IntKind.i64.wrap (a1.Deeds+1),P:={ a1.P with Stake:=((zfh a1.P.Stake a0.V 1).getD default).1 } }))))
     (.ite (a0.Kind==13)
      (.guard ((zgq a1.P a0.V a0.N).isSome=true)
      (.bind (z7 ((zgq a1.P a0.V a0.N).getD default).2) fun v5 =>
      (.leaf (v5,{ a1 with Deeds:=IntKind.i64.wrap (a1.Deeds+1),P:=((zgq a1.P a0.V a0.N).getD default).1 }))))
      (.ite (a0.Kind==5)
       (.ite ((decide (a0.N < 1))||(decide (a0.N > (IntKind.i64.wrap (1099511627736 - a1.Clock)))))
        (.bind (z7 2) fun v6 =>
        (.leaf (v6,{ a1 with Deeds:=IntKind.i64.wrap (a1.Deeds+1) })))
        (.leaf ((⟨0,IntKind.i64.wrap (a1.Clock+a0.N)⟩:Reply),{ a1 with Clock:=IntKind.i64.wrap (a1.Clock+a0.N),Deeds:=IntKind.i64.wrap (a1.Deeds+1) })))
       (.ite (a0.Kind==6)
        (.guard ((zbb a1.P a1.Clock).isSome=true)
        (.ite (((zbb a1.P a1.Clock).getD default).2.2 != 0)
         (.bind (z7 ((zbb a1.P a1.Clock).getD default).2.2) fun v7 =>
         (.leaf (v7,{ a1 with Deeds:=IntKind.i64.wrap (a1.Deeds+1),P:=((zbb a1.P a1.Clock).getD default).1 })))
         (.bind (zi1 ((zbb a1.P a1.Clock).getD default).2.1 0 ({ a1 with Deeds:=IntKind.i64.wrap (a1.Deeds+1),P:=((zbb a1.P a1.Clock).getD default).1 }) (⟨0,0⟩:Reply)) fun v8 =>
         (.leaf ((⟨0,((v8.1.length:Nat):Int)⟩:Reply),v8.2.1)))))
        (.ite ((decide (a0.Kind < 1))||(decide (a0.Kind > 13)))
         (.bind (z7 3) fun v9 =>
         (.leaf (v9,{ a1 with Deeds:=IntKind.i64.wrap (a1.Deeds+1) })))
         (.ite ((decide (a0.C < 0))||(decide (a0.C > 1)))
          (.bind (z7 4) fun v10 =>
          (.leaf (v10,{ a1 with Deeds:=IntKind.i64.wrap (a1.Deeds+1) })))
          (.two (znp 0 (a0.Kind==4) ({ a1 with Deeds:=IntKind.i64.wrap (a1.Deeds+1) }) a0 (⟨0,0⟩:Reply)) (fun v12 =>
           (.leaf (v12.2,v12.1))) (fun v13 =>
           (.guard ((0:Int)≤v13.2.2.1.C∧(v13.2.2.1.C:Int) < 2)
           (.ite (!(v13.2.1.C.On.get v13.2.2.1.C))
            (.bind (z7 4) fun v14 =>
            (.leaf (v14,v13.2.1)))
            (.guard ((0:Int)≤v13.2.2.1.C∧(v13.2.2.1.C:Int) < 2)
            (.guard ((0:Int)≤v13.2.2.1.C∧(v13.2.2.1.C:Int) < 2)
            (.two (znq v13.1 v13.2.2.1.C v13.2.2.1.C v13.2.2.1.Kind (v13.2.2.1.Kind==7) v13.2.1 v13.2.2.1 v13.2.2.2) (fun v16 =>
             (.bind (z7 v16.1) fun v17 =>
             (.leaf (v17,v16.2.1)))) (fun v18 =>
             (.leaf (v18.2,v18.1)))))))))))))))))))
def zgr (a0:Deed) (a1:zt5):=(zvw a0 a1).run
def z2u:SpecT:=zm 1 (LQ.kp 0 0 (LQ.v (Par.ofLP deedL) (LP.q zv2))) 2 [.cells 77 159] (u2 zvw) default (LQ.v (Par.ofLP zhm) (LP.q zv2)) 1 [.cells 77 159]
theorem zabk:ze Tryz.prog 8 (z2u).spec :=
 sK (A:=⟨[([0,1,0,1,1,1,0,1,1,1,1,1,1,1,1,1,1,1,0,1,0,1,1,1,1,1],za0g),([1,0,1,1,1,1,1,1,1,1],za0h),([1,0,1,0,1,1,1,1,1,1,1,1,1,1,1,1],za0i)],[],[],zawl,[]⟩) zawn fM Tryz.func8 (c:=(fb Tryz.f8)) (by kernel_rfl) (Lc:=1) ⟨zbcb,zbce,zbch,trivial⟩ _ _ 6 _ _ _ _ _ _ [.pubN 0] (by rintro ⟨a0,a1⟩;kernel_rfl)
end
