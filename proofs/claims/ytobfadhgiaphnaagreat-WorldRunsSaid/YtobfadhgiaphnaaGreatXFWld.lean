/-
  The functions, each by its tree.
-/
import Derived.Test.YtobfadhgiaphnaaGreatXAbFun
import Derived.Test.YtobfadhgiaphnaaGreatXAbStructs
import Derived.Test.YtobfadhgiaphnaaGreatXFBank
import Derived.Test.YtobfadhgiaphnaaGreatXFCodec
import Derived.Test.YtobfadhgiaphnaaGreatXFCons
import Derived.Test.YtobfadhgiaphnaaGreatXFLine
import Derived.Test.YtobfadhgiaphnaaGreatXFProv
import Derived.Test.YtobfadhgiaphnaaGreatXFRatio
import Derived.Test.YtobfadhgiaphnaaGreatXFStakeA
import Derived.Test.YtobfadhgiaphnaaGreatXFStakeB
import Derived.Test.YtobfadhgiaphnaaGreatXFacts
namespace Go.Proofs.YtobfadhgiaphnaaGreat.Ab
open Go Go.RowKit
set_option maxRecDepth 100000
set_option linter.unusedVariables false
set_option linter.unusedSimpArgs false
noncomputable section
noncomputable def zbjr:EnvT:=⟨Tryz.prog,zw [(48,z2i)]⟩
theorem zbjs:(zbjr).Ok:=zd ⟨zaa4,trivial⟩
def z39  : Tr (Wld) :=
 (.bind (zsz) fun v1 =>
 (.leaf (⟨0,v1,(default:zd9),(default:z6y),0⟩:Wld)))
def z0u  := (z39 ).run
def zabh:SpecT:=zm 0 LQ.nil 0 [] (fun s=>z39 ) default (LQ.kp 0 0 (LP.q wldL)) 1 [.cells 102 159]
theorem zaim:ze Tryz.prog 15 (zabh).spec :=
 sK (A:=⟨[],[],[],[[],[0]],[]⟩) zbjs fM Tryz.func15 (c:=(fb Tryz.f15)) (by kernel_rfl) (Lc:=0) trivial _ _ 3 _ _ _ _ _ _ [.pubB 0] (by rintro _;kernel_rfl)
noncomputable def zbjt:EnvT:=⟨Tryz.prog,zw [(173,zpd)]⟩
theorem zbju:(zbjt).Ok:=zd ⟨zsm,trivial⟩
def z0v (a0:zcl) (a1:Bool): Tr (ByteArray) :=
 (.ite (decide (a0.Got < ((a0.Said.length:Nat):Int)))
  (.guard ((0:Int)≤a0.Got∧a0.Got < ((Sl.len (.strs a0.Said):Nat):Int))
  (.ite (!a1)
   (.leaf (a0.Said.getD a0.Got.toNat .empty))
   (.bind (zbz (⟨3,1,0,IntKind.i64.wrap (1+(((a0.Said.getD a0.Got.toNat .empty).size:Nat):Int)),[],[]⟩:Packet)) fun v1 =>
   (.leaf v1.1))))
  (.ite (!a1)
   (.leaf (⟨#[]⟩:ByteArray))
   (.bind (zbz (⟨3,1,0,IntKind.i64.wrap (1+(((⟨#[]⟩:ByteArray).size:Nat):Int)),[],[]⟩:Packet)) fun v2 =>
   (.leaf v2.1))))
def zrx (a0:zcl) (a1:Bool):=(z0v a0 a1).run
def z8i:SpecT:=zm 0 (LQ.v (Par.ofLP lineL) (Par.q boolP)) 2 [] (u2 z0v) default (Par.q z43) 1 []
theorem zagj:ze Tryz.prog 132 (z8i).spec :=
 sK (A:=⟨[],[],[],[[1,2],[1,2,5],[1,2,5,11],[1,5],[5,19],[4],[5],[4]],[]⟩) zbju fM Tryz.func132 (c:=(fb Tryz.f132)) (by kernel_rfl) (Lc:=0) trivial _ _ 3 _ _ _ _ _ _ [] (by rintro ⟨a0,a1⟩;kernel_rfl)
def zbbo:List (List Nat):=[[0,2],[0,2,3,4,5],[0,2,3,4,5,21],[2],[0,2,3,4],[0,2,3,4,28],[0,2,3,4,28,29],[0,2,3,4,6,28],[0,2,3,4,28],[0,2,3,4,28],[2]]
noncomputable def zbbp:EnvT:=⟨Tryz.prog,zw [(84,z2l)]⟩
theorem zbbq:(zbbp).Ok:=zd ⟨zaa7,trivial⟩
def zbf (x0:(List Int)) (x1:Int) (x2:Wld) (x3:Reply) (x4:za): Tr (((List Int)×Int×Wld×Reply×za)⊕((List Int)×Wld×Reply)) :=
 (.ite (decide (x1 < 2))
  (.guard ((0:Int)≤x1∧(x1:Int) < 2)
  (.guard ((0:Int)≤x1∧(x1:Int) < 2)
  (.guard ((0:Int)≤x1∧(x1:Int) < 2)
  (.guard ((0:Int)≤0∧(0:Int) < 2)
  (.leaf (.inl (x0,IntKind.i64.wrap (x1+1),{ x2 with heads:={ x2.heads with PHeight:=(x2.heads.PHeight.set x1 x4.Height),PTime:=(x2.heads.PTime.set x1 x4.Time),PSaid:=(x2.heads.PSaid.set x1 (((x4.Links.Said.get x1).length:Nat):Int)),PGot:=(x2.heads.PGot.set x1 (x2.consumers.Got.get x1)) } },x3,x4)))))))
  (.leaf (.inr (x0,x2,x3))))
def zfx (x0:(List Int)) (x1:Int) (x2:Wld) (x3:Reply) (x4:za):=zbp (fun s:(List Int)×Int×Wld×Reply×za=>(zbf s.1 s.2.1 s.2.2.1 s.2.2.2.1 s.2.2.2.2).run) (x0,x1,x2,x3,x4)
def zbbr:Ann:=⟨[],[],[],zbbo,[]⟩
def zbbs:=EndD.mk (LQ.kp 0 0 (LQ.kp 1 0 (LQ.kp 2 0 (LQ.v zbc (LQ.v intP (LQ.seq (LP.q wldL) (LQ.seq (LP.q zhm) (LP.q providerL)))))))) ⟨[0,2,3,4,28],[.pub 4,.nilsl 4 (.ints [])]⟩ [.cells 102 159,.cells 32 2,.cells 63 97]
def zawd:=EndD.mk (LQ.kp 1 0 (LQ.v zbc (LQ.seq (LP.q wldL) (LP.q zhm)))) ⟨[2,4],[.pub 4,.nilsl 4 (.ints [])]⟩ [.cells 102 159,.cells 32 2]
def za0b:St→Option LR:=L1 61 5 1 zbbs (.exit 0) zawd (u5 zbf)
def zs185a:=sub (fb Tryz.f37) [0,1,0,1,1,1,1]
theorem zbbt:zk (zbbp).env 1 zs185a za0b :=
 zb2 (A:=zbbr) zbbq fM trivial (k:=zab zs185a) (by kernel_rfl) rfl (by rintro ⟨x0,x1,x2,x3,x4⟩;kernel_rfl)
def zjl (a0:Wld): Tr (Reply×Wld) :=
 (.guard ((zdr a0.p a0.clock).isSome=true)
 (.ite (((zdr a0.p a0.clock).getD default).2.2 != 0)
  (.leaf ((⟨((zdr a0.p a0.clock).getD default).2.2,0⟩:Reply),a0))
  (.bind (zfx ((zdr a0.p a0.clock).getD default).2.1 0 ({ a0 with p:=((zdr a0.p a0.clock).getD default).1 }) (⟨0,0⟩:Reply) ((zdr a0.p a0.clock).getD default).1) fun v1 =>
  (.leaf ((⟨0,((v1.1.length:Nat):Int)⟩:Reply),v1.2.1)))))
def zin (a0:Wld):=(zjl a0).run
def zp0:SpecT:=zm 1 (LQ.kp 0 0 (LP.q wldL)) 1 [.cells 102 159] zjl default (LQ.v (Par.ofLP zhm) (LP.q wldL)) 1 [.cells 102 159]
theorem zy1:ze Tryz.prog 37 (zp0).spec :=
 sK (A:=⟨[([0,1,0,1,1,1,1],za0b)],[],[],zbbo,[]⟩) zbbq fM Tryz.func37 (c:=(fb Tryz.f37)) (by kernel_rfl) (Lc:=1) ⟨zbbt,trivial⟩ _ _ 5 _ _ _ _ _ _ [.pubN 0] (by rintro a0;kernel_rfl)
noncomputable def zbjv:EnvT:=⟨Tryz.prog,zw [(132,z8i),(133,z2c),(134,z0j),(135,z0h)]⟩
theorem zbjw:(zbjv).Ok:=zd ⟨zagj,zaas,z8x,z8v,trivial⟩
def zjm (a0:Deed) (a1:Wld): Tr (Reply×Wld) :=
 (.guard ((0:Int)≤a0.C∧(a0.C:Int) < 2)
 (.guard ((0:Int)≤a0.C∧(a0.C:Int) < 2)
 (.ite (a0.Back)
  (.bind (zrx (zc a1.consumers a0.C).Out a0.Forged) fun v1 =>
  (.guard ((zo (zc a1.consumers a0.C).Out (IntKind.i64.wrap ((a1.consumers.Got.get a0.C)+1)) v1 (a1.p.Links.SSaid.get a0.C) a1.clock).isSome=true)
  (.ite (((zo (zc a1.consumers a0.C).Out (IntKind.i64.wrap ((a1.consumers.Got.get a0.C)+1)) v1 (a1.p.Links.SSaid.get a0.C) a1.clock).getD default).2 != 0)
   (.leaf ((⟨((zo (zc a1.consumers a0.C).Out (IntKind.i64.wrap ((a1.consumers.Got.get a0.C)+1)) v1 (a1.p.Links.SSaid.get a0.C) a1.clock).getD default).2,0⟩:Reply),a1))
   (.ite (a0.Back)
    (.guard ((zbi a1.p a0.C v1).isSome=true)
    (.ite (((zbi a1.p a0.C v1).getD default).2 != 0)
     (.leaf ((⟨((zbi a1.p a0.C v1).getD default).2,0⟩:Reply),a1))
     (.leaf ((⟨0,((zo (zc a1.consumers a0.C).Out (IntKind.i64.wrap ((a1.consumers.Got.get a0.C)+1)) v1 (a1.p.Links.SSaid.get a0.C) a1.clock).getD default).1.Got⟩:Reply),{ a1 with p:=((zbi a1.p a0.C v1).getD default).1,consumers:={ a1.consumers with Said:=(a1.consumers.Said.set a0.C ((zo (zc a1.consumers a0.C).Out (IntKind.i64.wrap ((a1.consumers.Got.get a0.C)+1)) v1 (a1.p.Links.SSaid.get a0.C) a1.clock).getD default).1.Said),Due:=(a1.consumers.Due.set a0.C ((zo (zc a1.consumers a0.C).Out (IntKind.i64.wrap ((a1.consumers.Got.get a0.C)+1)) v1 (a1.p.Links.SSaid.get a0.C) a1.clock).getD default).1.Due),Got:=(a1.consumers.Got.set a0.C ((zo (zc a1.consumers a0.C).Out (IntKind.i64.wrap ((a1.consumers.Got.get a0.C)+1)) v1 (a1.p.Links.SSaid.get a0.C) a1.clock).getD default).1.Got),Closed:=(a1.consumers.Closed.set a0.C ((zo (zc a1.consumers a0.C).Out (IntKind.i64.wrap ((a1.consumers.Got.get a0.C)+1)) v1 (a1.p.Links.SSaid.get a0.C) a1.clock).getD default).1.Closed) } }))))
    (.bind (zlh (zc a1.consumers a0.C) v1) fun v2 =>
    (.ite (v2.2 != 0)
     (.leaf ((⟨v2.2,0⟩:Reply),a1))
     (.leaf ((⟨0,((zo (zc a1.consumers a0.C).Out (IntKind.i64.wrap ((a1.consumers.Got.get a0.C)+1)) v1 (a1.p.Links.SSaid.get a0.C) a1.clock).getD default).1.Got⟩:Reply),{ a1 with p:={ a1.p with Links:={ a1.p.Links with Said:=(a1.p.Links.Said.set a0.C ((zo (zc a1.consumers a0.C).Out (IntKind.i64.wrap ((a1.consumers.Got.get a0.C)+1)) v1 (a1.p.Links.SSaid.get a0.C) a1.clock).getD default).1.Said),Due:=(a1.p.Links.Due.set a0.C ((zo (zc a1.consumers a0.C).Out (IntKind.i64.wrap ((a1.consumers.Got.get a0.C)+1)) v1 (a1.p.Links.SSaid.get a0.C) a1.clock).getD default).1.Due),Got:=(a1.p.Links.Got.set a0.C ((zo (zc a1.consumers a0.C).Out (IntKind.i64.wrap ((a1.consumers.Got.get a0.C)+1)) v1 (a1.p.Links.SSaid.get a0.C) a1.clock).getD default).1.Got),Closed:=(a1.p.Links.Closed.set a0.C ((zo (zc a1.consumers a0.C).Out (IntKind.i64.wrap ((a1.consumers.Got.get a0.C)+1)) v1 (a1.p.Links.SSaid.get a0.C) a1.clock).getD default).1.Closed) } },consumers:=(zo8 a1.consumers a0.C v2.1) }))))))))
  (.bind (zrx (zz a1.p.Links a0.C).Out a0.Forged) fun v3 =>
  (.guard ((zo (zz a1.p.Links a0.C).Out (IntKind.i64.wrap ((a1.p.Links.Got.get a0.C)+1)) v3 (a1.consumers.SSaid.get a0.C) a1.clock).isSome=true)
  (.ite (((zo (zz a1.p.Links a0.C).Out (IntKind.i64.wrap ((a1.p.Links.Got.get a0.C)+1)) v3 (a1.consumers.SSaid.get a0.C) a1.clock).getD default).2 != 0)
   (.leaf ((⟨((zo (zz a1.p.Links a0.C).Out (IntKind.i64.wrap ((a1.p.Links.Got.get a0.C)+1)) v3 (a1.consumers.SSaid.get a0.C) a1.clock).getD default).2,0⟩:Reply),a1))
   (.ite (a0.Back)
    (.guard ((zbi a1.p a0.C v3).isSome=true)
    (.ite (((zbi a1.p a0.C v3).getD default).2 != 0)
     (.leaf ((⟨((zbi a1.p a0.C v3).getD default).2,0⟩:Reply),a1))
     (.leaf ((⟨0,((zo (zz a1.p.Links a0.C).Out (IntKind.i64.wrap ((a1.p.Links.Got.get a0.C)+1)) v3 (a1.consumers.SSaid.get a0.C) a1.clock).getD default).1.Got⟩:Reply),{ a1 with p:=((zbi a1.p a0.C v3).getD default).1,consumers:={ a1.consumers with Said:=(a1.consumers.Said.set a0.C ((zo (zz a1.p.Links a0.C).Out (IntKind.i64.wrap ((a1.p.Links.Got.get a0.C)+1)) v3 (a1.consumers.SSaid.get a0.C) a1.clock).getD default).1.Said),Due:=(a1.consumers.Due.set a0.C ((zo (zz a1.p.Links a0.C).Out (IntKind.i64.wrap ((a1.p.Links.Got.get a0.C)+1)) v3 (a1.consumers.SSaid.get a0.C) a1.clock).getD default).1.Due),Got:=(a1.consumers.Got.set a0.C ((zo (zz a1.p.Links a0.C).Out (IntKind.i64.wrap ((a1.p.Links.Got.get a0.C)+1)) v3 (a1.consumers.SSaid.get a0.C) a1.clock).getD default).1.Got),Closed:=(a1.consumers.Closed.set a0.C ((zo (zz a1.p.Links a0.C).Out (IntKind.i64.wrap ((a1.p.Links.Got.get a0.C)+1)) v3 (a1.consumers.SSaid.get a0.C) a1.clock).getD default).1.Closed) } }))))
    (.bind (zlh (zc a1.consumers a0.C) v3) fun v4 =>
    (.ite (v4.2 != 0)
     (.leaf ((⟨v4.2,0⟩:Reply),a1))
     (.leaf ((⟨0,((zo (zz a1.p.Links a0.C).Out (IntKind.i64.wrap ((a1.p.Links.Got.get a0.C)+1)) v3 (a1.consumers.SSaid.get a0.C) a1.clock).getD default).1.Got⟩:Reply),{ a1 with p:={ a1.p with Links:={ a1.p.Links with Said:=(a1.p.Links.Said.set a0.C ((zo (zz a1.p.Links a0.C).Out (IntKind.i64.wrap ((a1.p.Links.Got.get a0.C)+1)) v3 (a1.consumers.SSaid.get a0.C) a1.clock).getD default).1.Said),Due:=(a1.p.Links.Due.set a0.C ((zo (zz a1.p.Links a0.C).Out (IntKind.i64.wrap ((a1.p.Links.Got.get a0.C)+1)) v3 (a1.consumers.SSaid.get a0.C) a1.clock).getD default).1.Due),Got:=(a1.p.Links.Got.set a0.C ((zo (zz a1.p.Links a0.C).Out (IntKind.i64.wrap ((a1.p.Links.Got.get a0.C)+1)) v3 (a1.consumers.SSaid.get a0.C) a1.clock).getD default).1.Got),Closed:=(a1.p.Links.Closed.set a0.C ((zo (zz a1.p.Links a0.C).Out (IntKind.i64.wrap ((a1.p.Links.Got.get a0.C)+1)) v3 (a1.consumers.SSaid.get a0.C) a1.clock).getD default).1.Closed) } },consumers:=(zo8 a1.consumers a0.C v4.1) })))))))))))
def zio (a0:Deed) (a1:Wld):=(zjm a0 a1).run
def zp1:SpecT:=zm 1 (LQ.kp 0 0 (LQ.v (Par.ofLP deedL) (LP.q wldL))) 2 [.cells 102 159] (u2 zjm) default (LQ.v (Par.ofLP zhm) (LP.q wldL)) 1 [.cells 102 159]
theorem zy2:ze Tryz.prog 88 (zp1).spec :=
 sK (A:=⟨[],[],[],[[0,3,4],[0,3,4,5,6],[0,3,4,5,6,7,8],[0,3,4,5,6,7,8,37],[0,3,4,5,6,7,8],[0,3,4,5,6,7,8,9],[0,3,4,5,6,7,9,10],[0,3,4,5,6,7,9,10,66],[4],[0,3,4,5,6,7,9,70],[0,4,5,7,11,12],[0,4,5,7,11,12,83],[4],[4,7],[4],[4,5,6,7,10,13],[4,5,6,7,10,13,106],[4],[4,7],[4]],[]⟩) zbjw fM Tryz.func88 (c:=(fb Tryz.f88)) (by kernel_rfl) (Lc:=1) trivial _ _ 7 _ _ _ _ _ _ [.pubN 0] (by rintro ⟨a0,a1⟩;kernel_rfl)
noncomputable def zbjx:EnvT:=⟨Tryz.prog,zw [(136,z5o),(137,zwl),(138,zwj)]⟩
theorem zbjy:(zbjx).Ok:=zd ⟨zada,z5y,z5w,trivial⟩
def zko (a0:Deed) (a1:Wld): Tr (Reply×Wld) :=
 (.guard ((0:Int)≤a0.C∧(a0.C:Int) < 2)
 (.guard ((0:Int)≤a0.C∧(a0.C:Int) < 2)
 (.ite (a0.Back)
  (.bind (zpb (zc a1.consumers a0.C).Out a0.N (a1.consumers.STime.get a0.C) (a1.consumers.SGot.get a0.C)) fun v1 =>
  (.ite (v1.2 != 0)
   (.leaf ((⟨v1.2,0⟩:Reply),a1))
   (.guard ((zd0 a1.p a0.C).isSome=true)
   (.bind (ziy (zc a1.consumers a0.C)) fun v2 =>
   (.leaf ((⟨0,0⟩:Reply),{ a1 with p:=((zd0 a1.p a0.C).getD default),consumers:=(zo8 a1.consumers a0.C v2) }))))))
  (.bind (zpb (zz a1.p.Links a0.C).Out a0.N (a1.p.Links.STime.get a0.C) (a1.p.Links.SGot.get a0.C)) fun v3 =>
  (.ite (v3.2 != 0)
   (.leaf ((⟨v3.2,0⟩:Reply),a1))
   (.guard ((zd0 a1.p a0.C).isSome=true)
   (.bind (ziy (zc a1.consumers a0.C)) fun v4 =>
   (.leaf ((⟨0,0⟩:Reply),{ a1 with p:=((zd0 a1.p a0.C).getD default),consumers:=(zo8 a1.consumers a0.C v4) })))))))))
def zjn (a0:Deed) (a1:Wld):=(zko a0 a1).run
def zra:SpecT:=zm 1 (LQ.kp 0 0 (LQ.v (Par.ofLP deedL) (LP.q wldL))) 2 [.cells 102 159] (u2 zko) default (LQ.v (Par.ofLP zhm) (LP.q wldL)) 1 [.cells 102 159]
theorem z0w:ze Tryz.prog 89 (zra).spec :=
 sK (A:=⟨[],[],[],[[0,3,4],[0,3,4,5,6],[0,3,4,5,7,8],[0,3,4,5,7,8,33],[0,3,4,5,7,8],[0,3,4,5,10],[0,3,4,5,10,54],[4],[4,5],[4],[4]],[]⟩) zbjy fM Tryz.func89 (c:=(fb Tryz.f89)) (by kernel_rfl) (Lc:=1) trivial _ _ 8 _ _ _ _ _ _ [.pubN 0] (by rintro ⟨a0,a1⟩;kernel_rfl)
noncomputable def zbjz:EnvT:=⟨Tryz.prog,zw [(85,zyu),(86,zyt),(87,z2h),(88,zp1),(89,zra),(90,z0i),(91,zwi)]⟩
theorem zbj0:(zbjz).Ok:=zd ⟨z7c,z7b,zaa3,zy2,z0w,z8w,z5v,trivial⟩
def zjo (a0:Deed) (a1:Wld): Tr (Reply×Wld) :=
 (.ite ((decide (a0.Kind < 4))||(decide (a0.Kind > 12)))
  (.leaf ((⟨3,0⟩:Reply),a1))
  (.ite ((decide (a0.C < 0))||(decide (a0.C≥2)))
   (.leaf ((⟨4,0⟩:Reply),a1))
   (.guard ((0:Int)≤a0.C∧(a0.C:Int) < 2)
   (.ite ((a0.Kind != 4)&&(!(a1.consumers.On.get a0.C)))
    (.leaf ((⟨4,0⟩:Reply),a1))
    (.ite (a0.Kind==4)
     (.guard ((zax a1.p a0.C).isSome=true)
     (.ite (((zax a1.p a0.C).getD default).2 != 0)
      (.leaf ((⟨((zax a1.p a0.C).getD default).2,0⟩:Reply),a1))
      (.guard ((zj6 ((zax a1.p a0.C).getD default).1.Set ((zax a1.p a0.C).getD default).1.Height a1.clock).isSome=true)
      (.guard ((0:Int)≤a0.C∧(a0.C:Int) < 2)
      (.leaf ((⟨0,((zax a1.p a0.C).getD default).1.Height⟩:Reply),(⟨a1.clock,((zax a1.p a0.C).getD default).1,(zo8 a1.consumers a0.C ((zj6 ((zax a1.p a0.C).getD default).1.Set ((zax a1.p a0.C).getD default).1.Height a1.clock).getD default)),(⟨(a1.heads.PHeight.set a0.C 0),(a1.heads.PTime.set a0.C 0),(a1.heads.PSaid.set a0.C 0),(a1.heads.PGot.set a0.C 0),(a1.heads.CHeight.set a0.C 0),(a1.heads.CTime.set a0.C 0),(a1.heads.CSaid.set a0.C 0),(a1.heads.CGot.set a0.C 0)⟩:z6y),a1.deeds⟩:Wld)))))))
     (.ite (a0.Kind==7)
      (.guard ((z6 (zc a1.consumers a0.C) a1.clock).isSome=true)
      (.ite (((z6 (zc a1.consumers a0.C) a1.clock).getD default).2==0)
       (.guard ((0:Int)≤a0.C∧(a0.C:Int) < 2)
       (.guard ((0:Int)≤a0.C∧(a0.C:Int) < 2)
       (.guard ((0:Int)≤1∧(1:Int) < 2)
       (.ite (((z6 (zc a1.consumers a0.C) a1.clock).getD default).2 != 0)
        (.leaf ((⟨((z6 (zc a1.consumers a0.C) a1.clock).getD default).2,0⟩:Reply),{ a1 with heads:={ a1.heads with CHeight:=(a1.heads.CHeight.set a0.C ((z6 (zc a1.consumers a0.C) a1.clock).getD default).1.Height),CTime:=(a1.heads.CTime.set a0.C ((z6 (zc a1.consumers a0.C) a1.clock).getD default).1.Time),CSaid:=(a1.heads.CSaid.set a0.C ((((z6 (zc a1.consumers a0.C) a1.clock).getD default).1.Out.Said.length:Nat):Int)),CGot:=(a1.heads.CGot.set a0.C (a1.p.Links.Got.get a0.C)) } }))
        (.leaf ((⟨0,0⟩:Reply),{ a1 with consumers:=(zo8 a1.consumers a0.C ((z6 (zc a1.consumers a0.C) a1.clock).getD default).1),heads:={ a1.heads with CHeight:=(a1.heads.CHeight.set a0.C ((z6 (zc a1.consumers a0.C) a1.clock).getD default).1.Height),CTime:=(a1.heads.CTime.set a0.C ((z6 (zc a1.consumers a0.C) a1.clock).getD default).1.Time),CSaid:=(a1.heads.CSaid.set a0.C ((((z6 (zc a1.consumers a0.C) a1.clock).getD default).1.Out.Said.length:Nat):Int)),CGot:=(a1.heads.CGot.set a0.C (a1.p.Links.Got.get a0.C)) } }))))))
       (.ite (((z6 (zc a1.consumers a0.C) a1.clock).getD default).2 != 0)
        (.leaf ((⟨((z6 (zc a1.consumers a0.C) a1.clock).getD default).2,0⟩:Reply),a1))
        (.leaf ((⟨0,0⟩:Reply),{ a1 with consumers:=(zo8 a1.consumers a0.C ((z6 (zc a1.consumers a0.C) a1.clock).getD default).1) })))))
      (.ite (a0.Kind==8)
       (.ite (a0.Back)
        (.guard ((0:Int)≤a0.C∧(a0.C:Int) < 2)
        (.guard ((0:Int)≤1∧(1:Int) < 2)
        (.guard ((0:Int)≤a0.C∧(a0.C:Int) < 2)
        (.ite (false)
         (.leaf ((⟨0,0⟩:Reply),{ a1 with p:={ a1.p with Links:={ a1.p.Links with SHeight:=(a1.p.Links.SHeight.set a0.C (a1.heads.CHeight.get a0.C)),STime:=(a1.p.Links.STime.set a0.C (a1.heads.CTime.get a0.C)),SSaid:=(a1.p.Links.SSaid.set a0.C (a1.heads.CSaid.get a0.C)),SGot:=(a1.p.Links.SGot.set a0.C (a1.heads.CGot.get a0.C)) } } }))
         (.leaf ((⟨0,0⟩:Reply),{ a1 with p:={ a1.p with Links:={ a1.p.Links with SHeight:=(a1.p.Links.SHeight.set a0.C (a1.heads.CHeight.get a0.C)),STime:=(a1.p.Links.STime.set a0.C (a1.heads.CTime.get a0.C)),SSaid:=(a1.p.Links.SSaid.set a0.C (a1.heads.CSaid.get a0.C)),SGot:=(a1.p.Links.SGot.set a0.C (a1.heads.CGot.get a0.C)) } },consumers:=(zo8 a1.consumers a0.C (zc a1.consumers a0.C)) }))))))
        (.guard ((0:Int)≤a0.C∧(a0.C:Int) < 2)
        (.guard ((0:Int)≤0∧(0:Int) < 2)
        (.ite (false)
         (.leaf ((⟨0,0⟩:Reply),a1))
         (.leaf ((⟨0,0⟩:Reply),{ a1 with consumers:=(zo8 a1.consumers a0.C ({ ((zc a1.consumers a0.C):zb) with Seen:=(⟨a1.heads.PHeight.get a0.C,a1.heads.PTime.get a0.C,a1.heads.PSaid.get a0.C,a1.heads.PGot.get a0.C⟩:Head) })) }))))))
       (.ite (a0.Kind==9)
        (.bind (zio a0 a1) fun v1 =>
        (.leaf (v1.1,v1.2)))
        (.ite (a0.Kind==10)
         (.bind (zjn a0 a1) fun v2 =>
         (.leaf (v2.1,v2.2)))
         (.ite (a0.Kind==11)
          (.guard ((ze8 (zc a1.consumers a0.C) a0.V a1.clock).isSome=true)
          (.ite (((ze8 (zc a1.consumers a0.C) a0.V a1.clock).getD default).2 != 0)
           (.leaf ((⟨((ze8 (zc a1.consumers a0.C) a0.V a1.clock).getD default).2,0⟩:Reply),a1))
           (.leaf ((⟨0,0⟩:Reply),{ a1 with consumers:=(zo8 a1.consumers a0.C ((ze8 (zc a1.consumers a0.C) a0.V a1.clock).getD default).1) }))))
          (.ite (a0.Kind==12)
           (.guard ((zdy (zc a1.consumers a0.C) a0.V a0.N a1.clock).isSome=true)
           (.ite (((zdy (zc a1.consumers a0.C) a0.V a0.N a1.clock).getD default).2 != 0)
            (.leaf ((⟨((zdy (zc a1.consumers a0.C) a0.V a0.N a1.clock).getD default).2,0⟩:Reply),a1))
            (.leaf ((⟨0,0⟩:Reply),{ a1 with consumers:=(zo8 a1.consumers a0.C ((zdy (zc a1.consumers a0.C) a0.V a0.N a1.clock).getD default).1) }))))
           (.ite (false)
            (.leaf ((⟨0,0⟩:Reply),a1))
            (.leaf ((⟨0,0⟩:Reply),{ a1 with consumers:=(zo8 a1.consumers a0.C (zc a1.consumers a0.C)) }))))))))))))))
def ziq (a0:Deed) (a1:Wld):=(zjo a0 a1).run
def zp2:SpecT:=zm 1 (LQ.kp 0 0 (LQ.v (Par.ofLP deedL) (LP.q wldL))) 2 [.cells 102 159] (u2 zjo) default (LQ.v (Par.ofLP zhm) (LP.q wldL)) 1 [.cells 102 159]
theorem zy7:ze Tryz.prog 38 (zp2).spec :=
 sK (A:=⟨[],[],[],[[0,3,4],[0,3,4,17],[4],[0,3,4,26],[4],[0,3,4,5],[0,3,4,5,43],[4],[0,3,4,5,6],[0,3,4,5,6,7],[0,3,4,5,6,7,49],[0,3,4,5,6,7,49,50],[0,3,4,5,8,9],[0,3,4,5,8,9,63],[4],[0,3,4,8],[4,8],[4],[0,3,4,5,6,7,49,91],[0,3,4,5,6,7],[0,3,4,5,6,7,103],[4,5,6,7],[0,3,4,5,6,7,49,130],[0,3,4,5,6,7,133],[4,5,6,7],[4,5,6,7],[0,3,4,5,6,7,49,159],[4],[0,3,4,5,6,7,49,164],[4],[0,3,4,5,6,7,49,169],[4,5,6,7],[0,3,4,5,6,7,182],[4,5,6,7],[4,5,6,7,198],[4],[4],[4]],[]⟩) zbj0 fM Tryz.func38 (c:=(fb Tryz.f38)) (by kernel_rfl) (Lc:=1) trivial _ _ 7 _ _ _ _ _ _ [.pubN 0] (by rintro ⟨a0,a1⟩;kernel_rfl)
noncomputable def zbj1:EnvT:=⟨Tryz.prog,zw [(33,zs2),(34,zpr),(35,z2g),(36,zs4),(37,zp0),(38,zp2)]⟩
theorem zbj2:(zbj1).Ok:=zd ⟨z1w,zy0,zaa0,z1x,zy1,zy7,trivial⟩
def zqy (a0:Deed) (a1:Wld): Tr (Reply×Wld) :=
 (.ite (decide (a1.deeds≥600))
  (.leaf ((⟨6,0⟩:Reply),a1))
  (.ite (a0.Kind==1)
   (.bind (zkh a1.p a0.D a0.V a0.N) fun v1 =>
   (.ite (v1.2 != 0)
    (.leaf ((⟨v1.2,0⟩:Reply),{ a1 with deeds:=IntKind.i64.wrap (a1.deeds+1) }))
    (.leaf ((⟨0,0⟩:Reply),{ a1 with p:=v1.1,deeds:=IntKind.i64.wrap (a1.deeds+1) }))))
   (.ite (a0.Kind==2)
    (.guard ((zbw a1.p a0.D a0.V a0.N a1.clock).isSome=true)
    (.ite (((zbw a1.p a0.D a0.V a0.N a1.clock).getD default).2 != 0)
     (.leaf ((⟨((zbw a1.p a0.D a0.V a0.N a1.clock).getD default).2,0⟩:Reply),{ a1 with deeds:=IntKind.i64.wrap (a1.deeds+1) }))
     (.leaf ((⟨0,0⟩:Reply),{ a1 with p:=((zbw a1.p a0.D a0.V a0.N a1.clock).getD default).1,deeds:=IntKind.i64.wrap (a1.deeds+1) }))))
    (.ite (a0.Kind==3)
     (.bind (zsr a1.p.Stake a0.V) fun v2 =>
     (.ite (v2.2 != 0)
      (.leaf ((⟨v2.2,0⟩:Reply),{ a1 with deeds:=IntKind.i64.wrap (a1.deeds+1) }))
      (.leaf ((⟨0,0⟩:Reply),{ a1 with p:={ a1.p with Stake:=v2.1 },deeds:=IntKind.i64.wrap (a1.deeds+1) }))))
     (.ite (a0.Kind==13)
      (.bind (zkj a1.p a0.V a0.N) fun v3 =>
      (.ite (v3.2 != 0)
       (.leaf ((⟨v3.2,0⟩:Reply),{ a1 with deeds:=IntKind.i64.wrap (a1.deeds+1) }))
       (.leaf ((⟨0,0⟩:Reply),{ a1 with p:=v3.1,deeds:=IntKind.i64.wrap (a1.deeds+1) }))))
      (.ite (a0.Kind==5)
       (.ite ((decide (a0.N < 1))||(decide (a0.N > (IntKind.i64.wrap (1099511627736 - a1.clock)))))
        (.leaf ((⟨2,0⟩:Reply),{ a1 with deeds:=IntKind.i64.wrap (a1.deeds+1) }))
        (.leaf ((⟨0,IntKind.i64.wrap (a1.clock+a0.N)⟩:Reply),{ a1 with clock:=IntKind.i64.wrap (a1.clock+a0.N),deeds:=IntKind.i64.wrap (a1.deeds+1) })))
       (.ite (a0.Kind==6)
        (.bind (zin ({ a1 with deeds:=IntKind.i64.wrap (a1.deeds+1) })) fun v4 =>
        (.leaf (v4.1,v4.2)))
        (.bind (ziq a0 ({ a1 with deeds:=IntKind.i64.wrap (a1.deeds+1) })) fun v5 =>
        (.leaf (v5.1,v5.2))))))))))
def zou (a0:Deed) (a1:Wld):=(zqy a0 a1).run
def zyw:SpecT:=zm 1 (LQ.kp 0 0 (LQ.v (Par.ofLP deedL) (LP.q wldL))) 2 [.cells 102 159] (u2 zqy) default (LQ.v (Par.ofLP zhm) (LP.q wldL)) 1 [.cells 102 159]
theorem z7i:ze Tryz.prog 9 (zyw).spec :=
 sK (A:=⟨[],[],[[1,0,0,1]],[[0,3,4],[0,3,4,7],[4],[0,3,4,11],[4],[0,3,4],[0,3,4],[0,3,4,6],[0,3,4,6,30],[4],[0,3,4,6,30,34],[0,4,5,6],[0,3,4,6,30,47],[0,4,5,6],[0,3,4,6,30,64],[0,4,5,6],[0,3,4,6,30,75],[0,4,5,6],[0,3,4,30,86],[0,3,4,100],[4],[0,4],[4],[0,3,4,116],[4],[0,4,5,6,121],[4],[4],[4]],[]⟩) zbj2 fM Tryz.func9 (c:=(fb Tryz.f9)) (by kernel_rfl) (Lc:=1) trivial _ _ 6 _ _ _ _ _ _ [.pubN 0] (by rintro ⟨a0,a1⟩;kernel_rfl)
def zbbu:List (List Nat):=[[0],[0,10],[2,3],[0,4],[0,4,5],[4,5,13,14,15],[4,5,13,14,15,16],[4,5,7,13,14,15],[4,5,13,14,15],[4,5,13,14,15],[2,3]]
noncomputable def zbbv:EnvT:=⟨Tryz.prog,zw [(15,zabh),(16,zmw),(9,zyw)]⟩
theorem zbbw:(zbbv).Ok:=zd ⟨zaim,zwe,z7i,trivial⟩
def zla (x0 x1:Int) (x2:Wld) (x3:(List Reply)) (x4:(List Deed)): Tr ((Int×Int×Wld×(List Reply)×(List Deed))⊕((List Reply))) :=
 (.ite (decide (x1 < x0))
  (.guard ((0:Int)≤x1∧x1 < ((Sl.len (.deeds x4):Nat):Int))
  (.bind (zou (x4.getD x1.toNat default) x2) fun v3 =>
  (.guard ((Sl.len (.replies x3)+Sl.len (.replies [v3.1]))*16≤140737488355328)
  (.leaf (.inl (x0,IntKind.i64.wrap (x1+1),v3.2,x3++[v3.1],x4))))))
  (.leaf (.inr x3)))
def ztl (x0 x1:Int) (x2:Wld) (x3:(List Reply)) (x4:(List Deed)):=zbp (fun s:Int×Int×Wld×(List Reply)×(List Deed)=>(zla s.1 s.2.1 s.2.2.1 s.2.2.2.1 s.2.2.2.2).run) (x0,x1,x2,x3,x4)
def zbbx:Ann:=⟨[],[],[],zbbu,[]⟩
def zbby:=EndD.mk (LQ.kp 0 0 (LQ.k (LQ.c (.own 1)) (LQ.k (LQ.c (.own 2)) (LQ.v intP (LQ.v intP (LQ.seq (LP.q wldL) (LQ.v z9i (Par.q deedsP)))))))) ⟨[4,5,13,14,15],[.nilown 5 32 (.replies []),.nilown 13 28 (.deeds [])]⟩ [.cells 102 159,.rows 32,.rows 28]
def zawe:=EndD.mk (LQ.k (LQ.c (.own 0)) (Par.q z9i)) ⟨[5],[.nilown 5 32 (.replies [])]⟩ [.rows 32]
def za0c:St→Option LR:=L1 27 8 0 zbby (.exit 0) zawe (u5 zla)
def zs190a:=sub (fb Tryz.f6) [0,1,0,1,1,1,1]
theorem zbbz:zk (zbbv).env 0 zs190a za0c :=
 zb2 (A:=zbbx) zbbw fM trivial (k:=zab zs190a) (by kernel_rfl) rfl (by rintro ⟨x0,x1,x2,x3,x4⟩;kernel_rfl)
def zyd (a0:(List Deed)): Tr ((List Reply)×Int) :=
 (.ite (decide (((a0.length:Nat):Int) > 600))
  (.leaf ([],6))
  (.bind (z0u) fun v1 =>
  (.bind (zf9 a0) fun v2 =>
  (.bind (ztl ((v2.length:Nat):Int) 0 v1 [] v2) fun v4 =>
  (.leaf (v4,0))))))
def zme (a0:(List Deed)):=(zyd a0).run
def zabi:SpecT:=zm 0 (Par.q deedsP) 1 [] zyd default (LQ.v z9i (Par.q intP)) 2 []
theorem zain:ze Tryz.prog 6 (zabi).spec :=
 sK (A:=⟨[([0,1,0,1,1,1,1],za0c)],[],[],zbbu,[]⟩) zbbw fM Tryz.func6 (c:=(fb Tryz.f6)) (by kernel_rfl) (Lc:=0) ⟨zbbz,trivial⟩ _ _ 8 _ _ _ _ _ _ [.pub 2] (by rintro a0;kernel_rfl)
end
