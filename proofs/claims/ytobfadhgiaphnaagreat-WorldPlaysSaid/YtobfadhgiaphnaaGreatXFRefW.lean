/-
  The functions, each by its tree.
-/
import Derived.Test.YtobfadhgiaphnaaGreatXAbC
import Derived.Test.YtobfadhgiaphnaaGreatXFBank
import Derived.Test.YtobfadhgiaphnaaGreatXFCodec
import Derived.Test.YtobfadhgiaphnaaGreatXFLine
import Derived.Test.YtobfadhgiaphnaaGreatXFRatio
import Derived.Test.YtobfadhgiaphnaaGreatXFRefA
import Derived.Test.YtobfadhgiaphnaaGreatXFRefB
import Derived.Test.YtobfadhgiaphnaaGreatXFRefC
import Derived.Test.YtobfadhgiaphnaaGreatXFRefP
import Derived.Test.YtobfadhgiaphnaaGreatXFacts
namespace Go.Proofs.YtobfadhgiaphnaaGreat.Ab
open Go Go.RowKit
open Go.IntKind (i64 u64)
set_option maxRecDepth 100000
set_option linter.unusedVariables false
set_option linter.unusedSimpArgs false
noncomputable section
noncomputable def zbo4:EnvT:=⟨Tryz.prog,zw [(17,zyh)]⟩
theorem zbo5:(zbo4).Ok:=zd ⟨z74,trivial⟩
def zxt  : Tr (zs2) :=
 (.bind (zos) fun v1 =>
 (.leaf (⟨0,0,v1,(default:zev),(default:z4b),(default:z4b)⟩:zs2)))
def zu9  := (zxt ).run
def z4w:SpecT:=zn 0 LQ.nil 0 [] (fun s=>zxt ) default (LQ.kp 0 0 (LP.q zvg)) 1 [.cells 77 159]
theorem zadq:ze Tryz.prog 7 (z4w).spec :=
 sK (A:=⟨[],[],[],[[],[0]],[]⟩) zbo5 fM Tryz.func7 (c:=(fb Tryz.f7)) (by kernel_rfl) (Lc:=0) trivial _ _ 3 _ _ _ _ _ _ [.pubB 0] (by rintro _;kernel_rfl)
def zse (a0:Int): Tr (Reply) :=
 (.leaf (⟨a0,0⟩:Reply))
def zaa (a0:Int):=(zse a0).run
def z0z:SpecT:=zn 0 (Par.q intP) 1 [] zse default (Par.q (Par.ofLP zij)) 1 []
theorem z9n:ze Tryz.prog 18 (z0z).spec :=
 sK (A:=⟨[],[],[],[[0,2],[2]],[]⟩) zhN fM Tryz.func18 (c:=(fb Tryz.f18)) (by kernel_rfl) (Lc:=0) trivial _ _ 3 _ _ _ _ _ _ [] (by rintro a0;kernel_rfl)
def zkn (a0:Int): Tr (Reply) :=
 (.leaf (⟨a0,0⟩:Reply))
def zdq (a0:Int):=(zkn a0).run
def zre:SpecT:=zn 0 (Par.q intP) 1 [] zkn default (Par.q (Par.ofLP zij)) 1 []
theorem z06:ze Tryz.prog 71 (zre).spec :=
 sK (A:=⟨[],[],[],[[0,2],[2]],[]⟩) zhN fM Tryz.func71 (c:=(fb Tryz.f71)) (by kernel_rfl) (Lc:=0) trivial _ _ 3 _ _ _ _ _ _ [] (by rintro a0;kernel_rfl)
def zaze:List (List Nat):=[[0,3,4],[0,3,4,5],[0,3,4,5,6,7],[0,3,4,5,6,7,8,9],[0,3,4,5,6,7,8,9,39],[0,3,4,5,6,7,8,9],[0,3,4,5,6,7,8,9,10],[0,3,4,5,6,7,8,9,10,54],[0,3,4,5,6,7,8,9,10],[0,3,4,5,6,7,8,9,10,62],[0,3,4,5,6,7,8,9,10],[0,3,4,5,6,7,8,10,11],[0,3,4,5,6,7,8,10,11,86],[4],[0,3,4,5,6,7,8,10,91],[0,4,5,6,8,12,13],[0,4,5,6,8,12,13,104],[4],[4,6,8],[4,8],[4,5,6,7,8,14,15],[4,5,6,7,8,14,15,125],[4],[4,7,8],[4,8],[4]]
noncomputable def zazf:EnvT:=⟨Tryz.prog,zw [(64,zju),(72,z7t),(71,zre),(73,zwg),(74,zwc)]⟩
theorem zazg:(zazf).Ok:=zd ⟨zmu,zafj,z06,z6b,z57,trivial⟩
def zjp (x0 x1 x2:Int) (x3:Bool) (x4:zs2) (x5:Deed) (x6:Reply) (x7:zbs): Tr (Int×Int×Int×zs2×Deed×Reply×zbs) :=
 (.ite (x3)
  (.leaf (x0,x1,x4.P.Links.SSaid.get x1,x4,x5,x6,(zc x4.C x0).Out))
  (.leaf (x0,x1,x2,x4,x5,x6,x7)))
def zic (x0 x1 x2:Int) (x3:Bool) (x4:zs2) (x5:Deed) (x6:Reply) (x7:zbs):=(zjp x0 x1 x2 x3 x4 x5 x6 x7).run
def zbgt:Ann:=⟨[],[],[],zaze,[]⟩
def zbgu:=EndD.mk (LQ.kp 0 0 (LQ.kp 1 0 (LQ.kp 2 0 (LQ.k (LQ.c (.fn 71 [])) (LQ.seq (LQ.pix1 0 99 2 22 0) (LQ.seq (LQ.pix1 0 68 2 14 0) (LQ.kp 3 0 (LQ.v intP (LQ.v boolP (LQ.seq (LP.q zvg) (LQ.seq (LP.q deedL) (LQ.seq (LP.q zij) (LP.q lineL))))))))))))) ⟨[0,3,4,5,6,7,8,9,39],[]⟩ [.cells 77 159,.cells 28 7,.cells 32 2,.cells 53 4]
def zazh:=EndD.mk (LQ.kp 0 0 (LQ.kp 1 0 (LQ.kp 2 0 (LQ.k (LQ.c (.fn 71 [])) (LQ.seq (LQ.pix1 0 99 2 22 0) (LQ.seq (LQ.pix1 0 68 2 14 0) (LQ.kp 3 0 (LQ.v intP (LQ.seq (LP.q zvg) (LQ.seq (LP.q deedL) (LQ.seq (LP.q zij) (LP.q lineL)))))))))))) ⟨[0,3,4,5,6,7,8,9],[]⟩ [.cells 77 159,.cells 28 7,.cells 32 2,.cells 53 4]
def za3o:St→Option LR:=M1 139 7 1 zbgu .normal zazh (u8 zjp)
def zs200a:=sub (fb Tryz.f29) [1,0,1,1,1,1]
theorem zbgv:zk (zazf).env 1 zs200a za3o :=
 za4l (A:=zbgt) zazg fM trivial (cd:=zatc zs200a) (k:=zatd zs200a) (l:=zate zs200a) (by kernel_rfl) (by rintro ⟨x0,x1,x2,x3,x4,x5,x6,x7⟩;kernel_rfl)
def zjq (x0 x1 x2:Int) (x3:ByteArray) (x4:Bool) (x5:zs2) (x6:Deed) (x7:Reply) (x8:zbs): Tr (Int×Int×Int×ByteArray×zs2×Deed×Reply×zbs) :=
 (.ite (x4)
  (.guard ((0:Int)≤x8.Got∧x8.Got < ((Sl.len (.strs x8.Said):Nat):Int))
  (.leaf (x0,x1,x2,x8.Said.getD x8.Got.toNat .empty,x5,x6,x7,x8)))
  (.leaf (x0,x1,x2,x3,x5,x6,x7,x8)))
def zid (x0 x1 x2:Int) (x3:ByteArray) (x4:Bool) (x5:zs2) (x6:Deed) (x7:Reply) (x8:zbs):=(zjq x0 x1 x2 x3 x4 x5 x6 x7 x8).run
def zbgw:Ann:=⟨[],[],[],zaze,[]⟩
def zbgx:=EndD.mk (LQ.kp 0 0 (LQ.kp 1 0 (LQ.kp 2 0 (LQ.k (LQ.c (.fn 71 [])) (LQ.seq (LQ.pix1 0 99 2 22 0) (LQ.seq (LQ.pix1 0 68 2 14 0) (LQ.kp 3 0 (LQ.v intP (LQ.v z67 (LQ.v boolP (LQ.seq (LP.q zvg) (LQ.seq (LP.q deedL) (LQ.seq (LP.q zij) (LP.q lineL)))))))))))))) ⟨[0,3,4,5,6,7,8,9,10,54],[]⟩ [.cells 77 159,.cells 28 7,.cells 32 2,.cells 53 4]
def zazi:=EndD.mk (LQ.kp 0 0 (LQ.kp 1 0 (LQ.kp 2 0 (LQ.k (LQ.c (.fn 71 [])) (LQ.seq (LQ.pix1 0 99 2 22 0) (LQ.seq (LQ.pix1 0 68 2 14 0) (LQ.kp 3 0 (LQ.v intP (LQ.v z67 (LQ.seq (LP.q zvg) (LQ.seq (LP.q deedL) (LQ.seq (LP.q zij) (LP.q lineL))))))))))))) ⟨[0,3,4,5,6,7,8,9,10],[]⟩ [.cells 77 159,.cells 28 7,.cells 32 2,.cells 53 4]
def za3p:St→Option LR:=M1 139 7 1 zbgx .normal zazi (u9 zjq)
def zs200b:=sub (fb Tryz.f29) [1,0,1,1,1,1,1,1]
theorem zbgy:zk (zazf).env 1 zs200b za3p :=
 za4l (A:=zbgw) zazg fM trivial (cd:=zatc zs200b) (k:=zatd zs200b) (l:=zate zs200b) (by kernel_rfl) (by rintro ⟨x0,x1,x2,x3,x4,x5,x6,x7,x8⟩;kernel_rfl)
def zjr (x0 x1 x2:Int) (x3:ByteArray) (x4:Bool) (x5:zs2) (x6:Deed) (x7:Reply) (x8:zbs): Tr (Int×Int×Int×ByteArray×zs2×Deed×Reply×zbs) :=
 (.ite (x4)
  (.bind (za8 (⟨3,1,0,i64.wrap (((x3.size:Nat):Int)+1),[],[]⟩:Packet)) fun v3 =>
  (.leaf (x0,x1,x2,v3.1,x5,x6,x7,x8)))
  (.leaf (x0,x1,x2,x3,x5,x6,x7,x8)))
def zie (x0 x1 x2:Int) (x3:ByteArray) (x4:Bool) (x5:zs2) (x6:Deed) (x7:Reply) (x8:zbs):=(zjr x0 x1 x2 x3 x4 x5 x6 x7 x8).run
def zbgz:Ann:=⟨[],[],[],zaze,[]⟩
def zbg0:=EndD.mk (LQ.kp 0 0 (LQ.kp 1 0 (LQ.kp 2 0 (LQ.k (LQ.c (.fn 71 [])) (LQ.seq (LQ.pix1 0 99 2 22 0) (LQ.seq (LQ.pix1 0 68 2 14 0) (LQ.kp 3 0 (LQ.v intP (LQ.v z67 (LQ.v boolP (LQ.seq (LP.q zvg) (LQ.seq (LP.q deedL) (LQ.seq (LP.q zij) (LP.q lineL)))))))))))))) ⟨[0,3,4,5,6,7,8,9,10,62],[]⟩ [.cells 77 159,.cells 28 7,.cells 32 2,.cells 53 4]
def zazj:=EndD.mk (LQ.kp 0 0 (LQ.kp 1 0 (LQ.kp 2 0 (LQ.k (LQ.c (.fn 71 [])) (LQ.seq (LQ.pix1 0 99 2 22 0) (LQ.seq (LQ.pix1 0 68 2 14 0) (LQ.kp 3 0 (LQ.v intP (LQ.v z67 (LQ.seq (LP.q zvg) (LQ.seq (LP.q deedL) (LQ.seq (LP.q zij) (LP.q lineL))))))))))))) ⟨[0,3,4,5,6,7,8,9,10],[]⟩ [.cells 77 159,.cells 28 7,.cells 32 2,.cells 53 4]
def za3q:St→Option LR:=M1 139 7 1 zbg0 .normal zazj (u9 zjr)
def zs200c:=sub (fb Tryz.f29) [1,0,1,1,1,1,1,1,1]
theorem zbg1:zk (zazf).env 1 zs200c za3q :=
 za4l (A:=zbgz) zazg fM trivial (cd:=zatc zs200c) (k:=zatd zs200c) (l:=zate zs200c) (by kernel_rfl) (by rintro ⟨x0,x1,x2,x3,x4,x5,x6,x7,x8⟩;kernel_rfl)
def zm9 (a0:Deed) (a1:zs2): Tr (Reply×zs2) :=
 (.guard ((0:Int)≤a0.C∧(a0.C:Int) < 2)
 (.guard ((0:Int)≤a0.C∧(a0.C:Int) < 2)
 (.bind (zic a0.C a0.C (a1.C.SSaid.get a0.C) a0.Back a1 a0 (⟨0,0⟩:Reply) (zx a1.P.Links a0.C).Out) fun v1 =>
 (.bind (zid v1.1 v1.2.1 v1.2.2.1 (⟨#[]⟩:ByteArray) (decide (v1.2.2.2.2.2.2.Got < ((v1.2.2.2.2.2.2.Said.length:Nat):Int))) v1.2.2.2.1 v1.2.2.2.2.1 v1.2.2.2.2.2.1 v1.2.2.2.2.2.2) fun v2 =>
 (.bind (zie v2.1 v2.2.1 v2.2.2.1 v2.2.2.2.1 v2.2.2.2.2.2.1.Forged v2.2.2.2.2.1 v2.2.2.2.2.2.1 v2.2.2.2.2.2.2.1 v2.2.2.2.2.2.2.2) fun v4 =>
 (.guard ((zam v4.2.2.2.2.2.2.2 (i64.wrap (v4.2.2.2.2.2.2.2.Got+1)) v4.2.2.2.1 v4.2.2.1 v4.2.2.2.2.1.Clock).isSome=true)
 (.ite (((zam v4.2.2.2.2.2.2.2 (i64.wrap (v4.2.2.2.2.2.2.2.Got+1)) v4.2.2.2.1 v4.2.2.1 v4.2.2.2.2.1.Clock).getD default).2 != 0)
  (.bind (zdq ((zam v4.2.2.2.2.2.2.2 (i64.wrap (v4.2.2.2.2.2.2.2.Got+1)) v4.2.2.2.1 v4.2.2.1 v4.2.2.2.2.1.Clock).getD default).2) fun v5 =>
  (.leaf (v5,v4.2.2.2.2.1)))
  (.ite (v4.2.2.2.2.2.1.Back)
   (.guard ((zcl v4.2.2.2.2.1.P v4.2.2.2.2.2.1.C v4.2.2.2.1).isSome=true)
   (.ite (((zcl v4.2.2.2.2.1.P v4.2.2.2.2.2.1.C v4.2.2.2.1).getD default).2 != 0)
    (.bind (zdq ((zcl v4.2.2.2.2.1.P v4.2.2.2.2.2.1.C v4.2.2.2.1).getD default).2) fun v6 =>
    (.leaf (v6,v4.2.2.2.2.1)))
    (.leaf ((⟨0,((zam v4.2.2.2.2.2.2.2 (i64.wrap (v4.2.2.2.2.2.2.2.Got+1)) v4.2.2.2.1 v4.2.2.1 v4.2.2.2.2.1.Clock).getD default).1.Got⟩:Reply),{ v4.2.2.2.2.1 with P:=((zcl v4.2.2.2.2.1.P v4.2.2.2.2.2.1.C v4.2.2.2.1).getD default).1,C:={ v4.2.2.2.2.1.C with Said:=(v4.2.2.2.2.1.C.Said.set v4.1 ((zam v4.2.2.2.2.2.2.2 (i64.wrap (v4.2.2.2.2.2.2.2.Got+1)) v4.2.2.2.1 v4.2.2.1 v4.2.2.2.2.1.Clock).getD default).1.Said),Due:=(v4.2.2.2.2.1.C.Due.set v4.1 ((zam v4.2.2.2.2.2.2.2 (i64.wrap (v4.2.2.2.2.2.2.2.Got+1)) v4.2.2.2.1 v4.2.2.1 v4.2.2.2.2.1.Clock).getD default).1.Due),Got:=(v4.2.2.2.2.1.C.Got.set v4.1 ((zam v4.2.2.2.2.2.2.2 (i64.wrap (v4.2.2.2.2.2.2.2.Got+1)) v4.2.2.2.1 v4.2.2.1 v4.2.2.2.2.1.Clock).getD default).1.Got),Closed:=(v4.2.2.2.2.1.C.Closed.set v4.1 ((zam v4.2.2.2.2.2.2.2 (i64.wrap (v4.2.2.2.2.2.2.2.Got+1)) v4.2.2.2.1 v4.2.2.1 v4.2.2.2.2.1.Clock).getD default).1.Closed) } }))))
   (.bind (zia (zc v4.2.2.2.2.1.C v4.1) v4.2.2.2.1) fun v7 =>
   (.ite (v7.2 != 0)
    (.bind (zdq v7.2) fun v8 =>
    (.leaf (v8,v4.2.2.2.2.1)))
    (.leaf ((⟨0,((zam v4.2.2.2.2.2.2.2 (i64.wrap (v4.2.2.2.2.2.2.2.Got+1)) v4.2.2.2.1 v4.2.2.1 v4.2.2.2.2.1.Clock).getD default).1.Got⟩:Reply),{ v4.2.2.2.2.1 with P:={ v4.2.2.2.2.1.P with Links:={ v4.2.2.2.2.1.P.Links with Said:=(v4.2.2.2.2.1.P.Links.Said.set v4.2.1 ((zam v4.2.2.2.2.2.2.2 (i64.wrap (v4.2.2.2.2.2.2.2.Got+1)) v4.2.2.2.1 v4.2.2.1 v4.2.2.2.2.1.Clock).getD default).1.Said),Due:=(v4.2.2.2.2.1.P.Links.Due.set v4.2.1 ((zam v4.2.2.2.2.2.2.2 (i64.wrap (v4.2.2.2.2.2.2.2.Got+1)) v4.2.2.2.1 v4.2.2.1 v4.2.2.2.2.1.Clock).getD default).1.Due),Got:=(v4.2.2.2.2.1.P.Links.Got.set v4.2.1 ((zam v4.2.2.2.2.2.2.2 (i64.wrap (v4.2.2.2.2.2.2.2.Got+1)) v4.2.2.2.1 v4.2.2.1 v4.2.2.2.2.1.Clock).getD default).1.Got),Closed:=(v4.2.2.2.2.1.P.Links.Closed.set v4.2.1 ((zam v4.2.2.2.2.2.2.2 (i64.wrap (v4.2.2.2.2.2.2.2.Got+1)) v4.2.2.2.1 v4.2.2.1 v4.2.2.2.2.1.Clock).getD default).1.Closed) } },C:=(zqh v4.2.2.2.2.1.C v4.1 v7.1) }))))))))))))
def zlr (a0:Deed) (a1:zs2):=(zm9 a0 a1).run
def zva:SpecT:=zn 1 (LQ.kp 0 0 (LQ.v (Par.ofLP deedL) (LP.q zvg))) 2 [.cells 77 159] (u2 zm9) default (LQ.v (Par.ofLP zij) (LP.q zvg)) 1 [.cells 77 159]
theorem z32:ze Tryz.prog 29 (zva).spec :=
 sK (A:=⟨[([1,0,1,1,1,1],za3o),([1,0,1,1,1,1,1,1],za3p),([1,0,1,1,1,1,1,1,1],za3q)],[],[],zaze,[]⟩) zazg fM Tryz.func29 (c:=(fb Tryz.f29)) (by kernel_rfl) (Lc:=1) ⟨zbgv,zbgy,zbg1,trivial⟩ _ _ 7 _ _ _ _ _ _ [.pubN 0] (by rintro ⟨a0,a1⟩;kernel_rfl)
def zazk:List (List Nat):=[[0,3,4],[0,3,4,5],[0,3,4,5,17],[4],[0,3,4,5],[0,3,4,5,6],[0,3,4,5,6,28],[0,3,4,5,6,28,29],[4,5,6],[4],[0,3,4,5,6,28,51],[4,5,6],[4],[0,3,4,5,6,28,77],[4,5,6],[4],[0,3,4,5,6,28,97],[4,5,6],[4],[0,3,4,5,6,28,117],[0,3,4,5,131],[4],[0,4],[4],[0,3,4,5,6,148],[0,4,5],[0,4,5,6,7],[0,4,5,6,7,167],[4],[0,4,7,171],[0,4,7,171,172],[0,4,7,8,171],[0,4,7,171],[0,4,7,171],[4],[0,3,4,5,6,219],[4],[0,3,4,5,6,229],[4],[0,3,4,5,6,234],[0,3,4,5,9,10],[0,3,4,5,9,10,246],[4],[0,3,4,9],[4,9],[4],[0,3,4,5,6,294],[4],[0,3,4,5,6,11],[0,3,4,5,6,11,12],[0,3,4,5,6,11,12,311],[0,3,4,5,6,11,12,311,312],[0,3,4,5,6,11,12],[0,3,4,5,6,11,12,328],[4,5,6],[0,3,4,5,6,11,12,311,355],[0,3,4,5,6,11,12,358],[4,5,6],[4,5,6],[0,3,4,5,6,11,12,311,379],[4,5,6],[0,3,4,5,6,11,12,311,396],[4,5,6],[0,3,4,5,6,11,12,311,415],[4],[0,3,4,5,6,11,12,420],[0,3,4,5,11,12,423],[0,3,4,5,6,11],[0,3,4,5,6,11],[0,3,4,5,6,11,465],[4,5,6],[4]]
noncomputable def zazl:EnvT:=⟨Tryz.prog,zw [(18,z0z),(19,zo5),(20,zni),(21,zz3),(22,z4t),(23,zyi),(24,zadn),(25,zu2),(26,zyg),(27,zaam),(28,z4s),(29,zva),(30,zaag),(31,zaan),(32,zsq)]⟩
theorem zazm:(zazl).Ok:=zd ⟨z9n,zz9,zxm,z2n,zado,z75,zakv,z30,z73,zair,zadm,z32,zain,zais,z2q,trivial⟩
def zfe (x0:(List Int)) (x1:Int) (x2:zs2) (x3:Reply): Tr (((List Int)×Int×zs2×Reply)⊕((List Int)×zs2×Reply)) :=
 (.ite (decide (x1 < 2))
  (.guard ((0:Int)≤x1∧(x1:Int) < 2)
  (.guard ((0:Int)≤x1∧(x1:Int) < 2)
  (.guard ((0:Int)≤x1∧(x1:Int) < 2)
  (.leaf (.inl (x0,i64.wrap (x1+1),{ x2 with HeadP:=(⟨(x2.HeadP.Height.set x1 x2.P.Height),(x2.HeadP.Time.set x1 x2.P.Time),(x2.HeadP.Said.set x1 (((x2.P.Links.Said.get x1).length:Nat):Int)),(x2.HeadP.Got.set x1 (x2.C.Got.get x1))⟩:z4b) },x3))))))
  (.leaf (.inr (x0,x2,x3))))
def zjz (x0:(List Int)) (x1:Int) (x2:zs2) (x3:Reply):=zbl (fun s:(List Int)×Int×zs2×Reply=>(zfe s.1 s.2.1 s.2.2.1 s.2.2.2).run) (x0,x1,x2,x3)
def zbg2:Ann:=⟨[],[],[],zazk,[]⟩
def zbg3:=EndD.mk (LQ.kp 0 0 (LQ.kp 1 0 (LQ.v za7 (LQ.v intP (LQ.seq (LP.q zvg) (LP.q zij)))))) ⟨[0,4,7,171],[.pub 7,.nilsl 7 (.ints [])]⟩ [.cells 77 159,.cells 32 2]
def zazn:=EndD.mk (LQ.kp 1 0 (LQ.v za7 (LQ.seq (LP.q zvg) (LP.q zij)))) ⟨[4,7],[.pub 7,.nilsl 7 (.ints [])]⟩ [.cells 77 159,.cells 32 2]
def za3r:St→Option LR:=L1 485 6 1 zbg3 (.exit 1) zazn (u4 zfe)
def zs201a:=sub (fb Tryz.f8) [0,1,0,1,1,1,0,1,1,1,1,1,1,1,1,1,1,1,0,1,0,1,1,1,1,1]
theorem zbg4:zk (zazl).env 1 zs201a za3r :=
 zb5 (A:=zbg2) zazm fM trivial (k:=z8 zs201a) (by kernel_rfl) rfl (by rintro ⟨x0,x1,x2,x3⟩;kernel_rfl)
def zp4 (x0:Int) (x1:Bool) (x2:zs2) (x3:Deed) (x4:Reply): Tr ((zs2×Reply)⊕(Int×zs2×Deed×Reply)) :=
 (.ite (x1)
  (.guard ((zdk x2.P x3.C).isSome=true)
  (.ite (((zdk x2.P x3.C).getD default).2 != 0)
   (.bind (zaa ((zdk x2.P x3.C).getD default).2) fun v11 =>
   (.leaf (.inl (x2,v11))))
   (.guard ((zgw ((zdk x2.P x3.C).getD default).1.Set ((zdk x2.P x3.C).getD default).1.Height x2.Clock).isSome=true)
   (.guard ((0:Int)≤x3.C∧(x3.C:Int) < 2)
   (.guard ((0:Int)≤x3.C∧(x3.C:Int) < 2)
   (.guard ((0:Int)≤x3.C∧(x3.C:Int) < 2)
   (.leaf (.inl ((⟨x2.Clock,x2.Deeds,((zdk x2.P x3.C).getD default).1,(zqh x2.C x3.C ((zgw ((zdk x2.P x3.C).getD default).1.Set ((zdk x2.P x3.C).getD default).1.Height x2.Clock).getD default)),(⟨(x2.HeadP.Height.set x3.C 0),(x2.HeadP.Time.set x3.C 0),(x2.HeadP.Said.set x3.C 0),(x2.HeadP.Got.set x3.C 0)⟩:z4b),(⟨(x2.HeadC.Height.set x3.C 0),(x2.HeadC.Time.set x3.C 0),(x2.HeadC.Said.set x3.C 0),(x2.HeadC.Got.set x3.C 0)⟩:z4b)⟩:zs2),(⟨0,((zdk x2.P x3.C).getD default).1.Height⟩:Reply))))))))))
  (.leaf (.inr (x0,x2,x3,x4))))
def zov (x0:Int) (x1:Bool) (x2:zs2) (x3:Deed) (x4:Reply):=(zp4 x0 x1 x2 x3 x4).run
def zbg5:Ann:=⟨[],[],[],zazk,[]⟩
def zbg6:=EndD.mk (LQ.kp 0 0 (LQ.kp 1 0 (LQ.kp 2 0 (LQ.k (LQ.c (.fn 18 [])) (LQ.v intP (LQ.v boolP (LQ.seq (LP.q zvg) (LQ.seq (LP.q deedL) (LP.q zij))))))))) ⟨[0,3,4,5,6,234],[]⟩ [.cells 77 159,.cells 28 7,.cells 32 2]
def zazo:=EndD.mk (LQ.kp 1 0 (LQ.seq (LP.q zvg) (LP.q zij))) ⟨[4],[.pubB 4]⟩ [.cells 77 159,.cells 32 2]
def zazp:=EndD.mk (LQ.kp 0 0 (LQ.kp 1 0 (LQ.kp 2 0 (LQ.k (LQ.c (.fn 18 [])) (LQ.v intP (LQ.seq (LP.q zvg) (LQ.seq (LP.q deedL) (LP.q zij)))))))) ⟨[0,3,4,5,6],[]⟩ [.cells 77 159,.cells 28 7,.cells 32 2]
def za3s:St→Option LR:=M2 485 6 1 zbg6 .ret zazo .normal zazp (u5 zp4)
def zs201b:=sub (fb Tryz.f8) [1,0,1,1,1,1,1,1,1,1]
theorem zbg7:zk (zazl).env 1 zs201b za3s :=
 za81 (A:=zbg5) zazm fM trivial (cd:=zatc zs201b) (k:=zatd zs201b) (l:=zate zs201b) (by kernel_rfl) (by rintro ⟨x0,x1,x2,x3,x4⟩;kernel_rfl)
def zp5 (x0 x1 x2 x3:Int) (x4:Bool) (x5:zs2) (x6:Deed) (x7:Reply): Tr ((Int×zs2×Reply)⊕(zs2×Reply)) :=
 (.ite (x4)
  (.guard ((zag (zc x5.C x1) x5.Clock).isSome=true)
  (.ite (((zag (zc x5.C x1) x5.Clock).getD default).2==0)
   (.guard ((0:Int)≤x6.C∧(x6.C:Int) < 2)
   (.leaf (.inl (((zag (zc x5.C x1) x5.Clock).getD default).2,{ x5 with C:=(zqh x5.C x1 ((zag (zc x5.C x1) x5.Clock).getD default).1),HeadC:=(⟨(x5.HeadC.Height.set x6.C ((x5.C.Height.set x1 ((zag (zc x5.C x1) x5.Clock).getD default).1.Height).get x1)),(x5.HeadC.Time.set x6.C ((x5.C.Time.set x1 ((zag (zc x5.C x1) x5.Clock).getD default).1.Time).get x1)),(x5.HeadC.Said.set x6.C ((((x5.C.Said.set x1 ((zag (zc x5.C x1) x5.Clock).getD default).1.Out.Said).get x1).length:Nat):Int)),(x5.HeadC.Got.set x6.C (x5.P.Links.Got.get x2))⟩:z4b) },x7))))
   (.leaf (.inl (((zag (zc x5.C x1) x5.Clock).getD default).2,{ x5 with C:=(zqh x5.C x1 ((zag (zc x5.C x1) x5.Clock).getD default).1) },x7)))))
  (.ite (x3==8)
   (.ite (x6.Back)
    (.guard ((0:Int)≤x6.C∧(x6.C:Int) < 2)
    (.leaf (.inl (x0,{ x5 with P:={ x5.P with Links:={ x5.P.Links with SHeight:=(x5.P.Links.SHeight.set x2 (x5.HeadC.Height.get x6.C)),STime:=(x5.P.Links.STime.set x2 (x5.HeadC.Time.get x6.C)),SSaid:=(x5.P.Links.SSaid.set x2 (x5.HeadC.Said.get x6.C)),SGot:=(x5.P.Links.SGot.set x2 (x5.HeadC.Got.get x6.C)) } } },x7))))
    (.guard ((0:Int)≤x6.C∧(x6.C:Int) < 2)
    (.leaf (.inl (x0,{ x5 with C:={ x5.C with SHeight:=(x5.C.SHeight.set x1 (x5.HeadP.Height.get x6.C)),STime:=(x5.C.STime.set x1 (x5.HeadP.Time.get x6.C)),SSaid:=(x5.C.SSaid.set x1 (x5.HeadP.Said.get x6.C)),SGot:=(x5.C.SGot.set x1 (x5.HeadP.Got.get x6.C)) } },x7)))))
   (.ite (x3==11)
    (.guard ((zk9 (zc x5.C x1) x6.V x5.Clock).isSome=true)
    (.leaf (.inl (((zk9 (zc x5.C x1) x6.V x5.Clock).getD default).2,{ x5 with C:=(zqh x5.C x1 ((zk9 (zc x5.C x1) x6.V x5.Clock).getD default).1) },x7))))
    (.ite (x3==12)
     (.guard ((zhg (zc x5.C x1) x6.V x6.N x5.Clock).isSome=true)
     (.leaf (.inl (((zhg (zc x5.C x1) x6.V x6.N x5.Clock).getD default).2,{ x5 with C:=(zqh x5.C x1 ((zhg (zc x5.C x1) x6.V x6.N x5.Clock).getD default).1) },x7))))
     (.ite (x3==9)
      (.bind (zlr x6 x5) fun v15 =>
      (.leaf (.inr (v15.2,v15.1))))
      (.ite (x3==10)
       (.ite (x6.Back)
        (.guard ((zce (zc x5.C x1).Out x6.N (x5.C.STime.get x1) (x5.C.SGot.get x1)).isSome=true)
        (.ite (((zce (zc x5.C x1).Out x6.N (x5.C.STime.get x1) (x5.C.SGot.get x1)).getD default).2==0)
         (.guard ((zib x5.P x6.C).isSome=true)
         (.guard ((zbr (zc x5.C x1)).isSome=true)
         (.leaf (.inl (((zce (zc x5.C x1).Out x6.N (x5.C.STime.get x1) (x5.C.SGot.get x1)).getD default).2,{ x5 with P:=((zib x5.P x6.C).getD default),C:=(zqh x5.C x1 ((zbr (zc x5.C x1)).getD default)) },x7)))))
         (.leaf (.inl (((zce (zc x5.C x1).Out x6.N (x5.C.STime.get x1) (x5.C.SGot.get x1)).getD default).2,x5,x7)))))
        (.guard ((zce (zx x5.P.Links x2).Out x6.N (x5.P.Links.STime.get x2) (x5.P.Links.SGot.get x2)).isSome=true)
        (.ite (((zce (zx x5.P.Links x2).Out x6.N (x5.P.Links.STime.get x2) (x5.P.Links.SGot.get x2)).getD default).2==0)
         (.guard ((zib x5.P x6.C).isSome=true)
         (.guard ((zbr (zc x5.C x1)).isSome=true)
         (.leaf (.inl (((zce (zx x5.P.Links x2).Out x6.N (x5.P.Links.STime.get x2) (x5.P.Links.SGot.get x2)).getD default).2,{ x5 with P:=((zib x5.P x6.C).getD default),C:=(zqh x5.C x1 ((zbr (zc x5.C x1)).getD default)) },x7)))))
         (.leaf (.inl (((zce (zx x5.P.Links x2).Out x6.N (x5.P.Links.STime.get x2) (x5.P.Links.SGot.get x2)).getD default).2,x5,x7))))))
       (.leaf (.inl (x0,x5,x7)))))))))
def zow (x0 x1 x2 x3:Int) (x4:Bool) (x5:zs2) (x6:Deed) (x7:Reply):=(zp5 x0 x1 x2 x3 x4 x5 x6 x7).run
def zbg8:Ann:=⟨[],[],[],zazk,[]⟩
def zbg9:=EndD.mk (LQ.kp 0 0 (LQ.kp 1 0 (LQ.kp 2 0 (LQ.k (LQ.c (.fn 18 [])) (LQ.v intP (LQ.seq (LQ.pix1 0 99 2 22 0) (LQ.seq (LQ.pix1 0 68 2 14 0) (LQ.v intP (LQ.v boolP (LQ.seq (LP.q zvg) (LQ.seq (LP.q deedL) (LP.q zij)))))))))))) ⟨[0,3,4,5,6,11,12,311,312],[]⟩ [.cells 77 159,.cells 28 7,.cells 32 2]
def zazq:=EndD.mk (LQ.kp 1 0 (LQ.k (LQ.c (.fn 18 [])) (LQ.v intP (LQ.seq (LP.q zvg) (LP.q zij))))) ⟨[4,5,6],[]⟩ [.cells 77 159,.cells 32 2]
def zazr:=EndD.mk (LQ.kp 1 0 (LQ.seq (LP.q zvg) (LP.q zij))) ⟨[4],[.pubB 4]⟩ [.cells 77 159,.cells 32 2]
def za3t:St→Option LR:=M2 485 6 1 zbg9 .normal zazq .ret zazr (u8 zp5)
def zs201c:=sub (fb Tryz.f8) [1,0,1,0,1,1,1,1,1,1,1,1,1,1,1,1]
theorem zbha:zk (zazl).env 1 zs201c za3t :=
 za81 (A:=zbg8) zazm fM trivial (cd:=zatc zs201c) (k:=zatd zs201c) (l:=zate zs201c) (by kernel_rfl) (by rintro ⟨x0,x1,x2,x3,x4,x5,x6,x7⟩;kernel_rfl)
def zxu (a0:Deed) (a1:zs2): Tr (Reply×zs2) :=
 (.ite (a1.Deeds==600)
  (.bind (zaa 6) fun v1 =>
  (.leaf (v1,a1)))
  (.ite (a0.Kind==1)
   (.guard ((zbw a1.P a0.D a0.V a0.N).isSome=true)
   (.bind (zaa ((zbw a1.P a0.D a0.V a0.N).getD default).2) fun v2 =>
   (.leaf (v2,{ a1 with Deeds:=i64.wrap (a1.Deeds+1),P:=((zbw a1.P a0.D a0.V a0.N).getD default).1 }))))
   (.ite (a0.Kind==2)
    (.guard ((zbe a1.P a0.D a0.V a0.N a1.Clock).isSome=true)
    (.bind (zaa ((zbe a1.P a0.D a0.V a0.N a1.Clock).getD default).2) fun v3 =>
    (.leaf (v3,{ a1 with Deeds:=i64.wrap (a1.Deeds+1),P:=((zbe a1.P a0.D a0.V a0.N a1.Clock).getD default).1 }))))
    (.ite (a0.Kind==3)
     (.guard ((zga a1.P.Stake a0.V 1).isSome=true)
     (.bind (zaa ((zga a1.P.Stake a0.V 1).getD default).2) fun v4 =>
     (.leaf (v4,{ a1 with Deeds:=i64.wrap (a1.Deeds+1),P:={ a1.P with Stake:=((zga a1.P.Stake a0.V 1).getD default).1 } }))))
     (.ite (a0.Kind==13)
      (.guard ((zhj a1.P a0.V a0.N).isSome=true)
      (.bind (zaa ((zhj a1.P a0.V a0.N).getD default).2) fun v5 =>
      (.leaf (v5,{ a1 with Deeds:=i64.wrap (a1.Deeds+1),P:=((zhj a1.P a0.V a0.N).getD default).1 }))))
      (.ite (a0.Kind==5)
       (.ite ((decide (a0.N < 1))||(decide (a0.N > (i64.wrap (1099511627736 - a1.Clock)))))
        (.bind (zaa 2) fun v6 =>
        (.leaf (v6,{ a1 with Deeds:=i64.wrap (a1.Deeds+1) })))
        (.leaf ((⟨0,i64.wrap (a1.Clock+a0.N)⟩:Reply),{ a1 with Clock:=i64.wrap (a1.Clock+a0.N),Deeds:=i64.wrap (a1.Deeds+1) })))
       (.ite (a0.Kind==6)
        (.guard ((zbj a1.P a1.Clock).isSome=true)
        (.ite (((zbj a1.P a1.Clock).getD default).2.2 != 0)
         (.bind (zaa ((zbj a1.P a1.Clock).getD default).2.2) fun v7 =>
         (.leaf (v7,{ a1 with Deeds:=i64.wrap (a1.Deeds+1),P:=((zbj a1.P a1.Clock).getD default).1 })))
         (.bind (zjz ((zbj a1.P a1.Clock).getD default).2.1 0 ({ a1 with Deeds:=i64.wrap (a1.Deeds+1),P:=((zbj a1.P a1.Clock).getD default).1 }) (⟨0,0⟩:Reply)) fun v8 =>
         (.leaf ((⟨0,((v8.1.length:Nat):Int)⟩:Reply),v8.2.1)))))
        (.ite ((decide (a0.Kind < 1))||(decide (a0.Kind > 13)))
         (.bind (zaa 3) fun v9 =>
         (.leaf (v9,{ a1 with Deeds:=i64.wrap (a1.Deeds+1) })))
         (.ite ((decide (a0.C < 0))||(decide (a0.C > 1)))
          (.bind (zaa 4) fun v10 =>
          (.leaf (v10,{ a1 with Deeds:=i64.wrap (a1.Deeds+1) })))
          (.two (zov 0 (a0.Kind==4) ({ a1 with Deeds:=i64.wrap (a1.Deeds+1) }) a0 (⟨0,0⟩:Reply)) (fun v12 =>
           (.leaf (v12.2,v12.1))) (fun v13 =>
           (.guard ((0:Int)≤v13.2.2.1.C∧(v13.2.2.1.C:Int) < 2)
           (.ite (!(v13.2.1.C.On.get v13.2.2.1.C))
            (.bind (zaa 4) fun v14 =>
            (.leaf (v14,v13.2.1)))
            (.guard ((0:Int)≤v13.2.2.1.C∧(v13.2.2.1.C:Int) < 2)
            (.guard ((0:Int)≤v13.2.2.1.C∧(v13.2.2.1.C:Int) < 2)
            (.two (zow v13.1 v13.2.2.1.C v13.2.2.1.C v13.2.2.1.Kind (v13.2.2.1.Kind==7) v13.2.1 v13.2.2.1 v13.2.2.2) (fun v16 =>
             (.bind (zaa v16.1) fun v17 =>
             (.leaf (v17,v16.2.1)))) (fun v18 =>
             (.leaf (v18.2,v18.1)))))))))))))))))))
def zc7 (a0:Deed) (a1:zs2):=(zxu a0 a1).run
def z4x:SpecT:=zn 1 (LQ.kp 0 0 (LQ.v (Par.ofLP deedL) (LP.q zvg))) 2 [.cells 77 159] (u2 zxu) default (LQ.v (Par.ofLP zij) (LP.q zvg)) 1 [.cells 77 159]
theorem zadr:ze Tryz.prog 8 (z4x).spec :=
 sK (A:=⟨[([0,1,0,1,1,1,0,1,1,1,1,1,1,1,1,1,1,1,0,1,0,1,1,1,1,1],za3r),([1,0,1,1,1,1,1,1,1,1],za3s),([1,0,1,0,1,1,1,1,1,1,1,1,1,1,1,1],za3t)],[],[],zazk,[]⟩) zazm fM Tryz.func8 (c:=(fb Tryz.f8)) (by kernel_rfl) (Lc:=1) ⟨zbg4,zbg7,zbha,trivial⟩ _ _ 6 _ _ _ _ _ _ [.pubN 0] (by rintro ⟨a0,a1⟩;kernel_rfl)
end
