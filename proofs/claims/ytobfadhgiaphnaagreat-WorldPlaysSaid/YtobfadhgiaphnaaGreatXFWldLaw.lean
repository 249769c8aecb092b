/-
  The functions, each by its tree.
-/
import Derived.Test.YtobfadhgiaphnaaGreatXAbC
import Derived.Test.YtobfadhgiaphnaaGreatXAbRo
import Derived.Test.YtobfadhgiaphnaaGreatXFBank
import Derived.Test.YtobfadhgiaphnaaGreatXFCodec
import Derived.Test.YtobfadhgiaphnaaGreatXFCons
import Derived.Test.YtobfadhgiaphnaaGreatXFLine
import Derived.Test.YtobfadhgiaphnaaGreatXFProv
import Derived.Test.YtobfadhgiaphnaaGreatXFRatio
import Derived.Test.YtobfadhgiaphnaaGreatXFRefA
import Derived.Test.YtobfadhgiaphnaaGreatXFRefB
import Derived.Test.YtobfadhgiaphnaaGreatXFRefC
import Derived.Test.YtobfadhgiaphnaaGreatXFRefP
import Derived.Test.YtobfadhgiaphnaaGreatXFRefW
import Derived.Test.YtobfadhgiaphnaaGreatXFStakeA
import Derived.Test.YtobfadhgiaphnaaGreatXFStakeB
import Derived.Test.YtobfadhgiaphnaaGreatXFWld
import Derived.Test.YtobfadhgiaphnaaGreatXFacts
namespace Go.Proofs.YtobfadhgiaphnaaGreat.Ab
open Go Go.RowKit
set_option maxRecDepth 100000
set_option linter.unusedVariables false
set_option linter.unusedSimpArgs false
noncomputable section
def za7c:List (List Nat):=[[0],[0,3,4],[0,3,4,11],[2],[0,3,4,5],[0,3,4,5,19],[0,3,4,5],[0,3,4,5,43],[2],[3,4,51],[2],[3,4,6],[3,4,6,53],[3,4,6],[3,4,6,7],[3,4,6,7,61],[3,4,6,7],[3,4,6,73],[2],[2]]
noncomputable def za7d:EnvT:=⟨Tryz.prog,zw [(15,zadp),(7,z4w),(9,z0y),(8,z4x),(10,zo8),(12,zo6),(11,zwf),(14,zo7),(13,zwb)]⟩
theorem za7e:(za7d).Ok:=zd ⟨zakw,zadq,z9m,zadr,z0e,z0c,z59,z0d,z56,trivial⟩
def zfn (x0:(List Deed)) (x1:Int) (x2:Wld) (x3:zs2): Tr (((List Deed)×Int×Wld×zs2)⊕((Bool)⊕(Wld×zs2))) :=
 (.ite ((decide (x1 < ((x0.length:Nat):Int)))&&(decide (x1 < 120)))
  (.guard ((0:Int)≤x1∧x1 < ((Sl.len (.deeds x0):Nat):Int))
  (.guard ((zar (x0.getD x1.toNat default) x2).isSome=true)
  (.guard ((0:Int)≤x1∧x1 < ((Sl.len (.deeds x0):Nat):Int))
  (.guard ((zc7 (x0.getD x1.toNat default) x3).isSome=true)
  (.guard (((!((((zar (x0.getD x1.toNat default) x2).getD default).1.Code==((zc7 (x0.getD x1.toNat default) x3).getD default).1.Code)&&((((zar (x0.getD x1.toNat default) x2).getD default).1.N==((zc7 (x0.getD x1.toNat default) x3).getD default).1.N)&&true)))=false→((roOW 102 ((zar (x0.getD x1.toNat default) x2).getD default).2 (ze1 ((zar (x0.getD x1.toNat default) x2).getD default).2)).isSome=true)∧True))
  (.ite ((!((((zar (x0.getD x1.toNat default) x2).getD default).1.Code==((zc7 (x0.getD x1.toNat default) x3).getD default).1.Code)&&((((zar (x0.getD x1.toNat default) x2).getD default).1.N==((zc7 (x0.getD x1.toNat default) x3).getD default).1.N)&&true)))||(((roOW 102 ((zar (x0.getD x1.toNat default) x2).getD default).2 (ze1 ((zar (x0.getD x1.toNat default) x2).getD default).2)).getD default).1 != ((zc7 (x0.getD x1.toNat default) x3).getD default).2.Clock))
   (.leaf (.inr (.inl false)))
   (.leaf (.inl (x0,IntKind.i64.wrap (x1+1),((zar (x0.getD x1.toNat default) x2).getD default).2,((zc7 (x0.getD x1.toNat default) x3).getD default).2)))))))))
  (.leaf (.inr (.inr (x2,x3)))))
def zls (x0:(List Deed)) (x1:Int) (x2:Wld) (x3:zs2):=zbl (fun s:(List Deed)×Int×Wld×zs2=>(zfn s.1 s.2.1 s.2.2.1 s.2.2.2).run) (x0,x1,x2,x3)
def zbhb:Ann:=⟨[],[],[],za7c,[]⟩
def zbhc:=EndD.mk (LQ.v deedsP (LQ.kp 0 0 (LQ.kp 1 0 (LQ.v intP (LQ.seq (LP.q wldL) (LP.q zvg)))))) ⟨[0,3,4,5],[.pub 0,.nilsl 0 (.deeds [])]⟩ [.cells 102 159,.cells 77 159]
def zazs:=EndD.mk (Par.q boolP) ⟨[2],[]⟩ []
def zazt:=EndD.mk (LQ.kp 0 0 (LQ.kp 1 0 (LQ.seq (LP.q wldL) (LP.q zvg)))) ⟨[3,4],[]⟩ [.cells 102 159,.cells 77 159]
def za3u:St→Option LR:=L2 74 5 0 zbhc .ret zazs (.exit 0) zazt (u4 zfn)
def zs205a:=sub (fb Tryz.f5) [0,1,0,1,1,1]
theorem zbhd:zk (za7d).env 0 zs205a za3u :=
 zgs (A:=zbhb) za7e fM trivial (k:=z8 zs205a) (by kernel_rfl) rfl rfl (by rintro ⟨x0,x1,x2,x3⟩;kernel_rfl)
def zdw (x0:Int) (x1:Wld) (x2:zs2): Tr ((Int×Wld×zs2)⊕((Bool)⊕(Unit))) :=
 (.ite (decide (x0 < 3))
  (.ite ((decide (x0≥0))&&(decide (x0 < 2)))
   (.guard ((0:Int)≤x0∧(x0:Int) < 2)
   (.guard ((z7 x0 x1).isSome=true)
   (.guard ((zbp ((z7 x0 x1).getD default).1 (zc x2.C x0)).isSome=true)
   (.ite (!((zbp ((z7 x0 x1).getD default).1 (zc x2.C x0)).getD default))
    (.leaf (.inr (.inl false)))
    (.leaf (.inl (IntKind.i64.wrap (x0+1),((z7 x0 x1).getD default).2,x2)))))))
   (.guard ((z7 x0 x1).isSome=true)
   (.guard ((zbp ((z7 x0 x1).getD default).1 (default:zb)).isSome=true)
   (.ite (!((zbp ((z7 x0 x1).getD default).1 (default:zb)).getD default))
    (.leaf (.inr (.inl false)))
    (.leaf (.inl (IntKind.i64.wrap (x0+1),((z7 x0 x1).getD default).2,x2)))))))
  (.leaf (.inr (.inr ()))))
def zlt (x0:Int) (x1:Wld) (x2:zs2):=zbl (fun s:Int×Wld×zs2=>(zdw s.1 s.2.1 s.2.2).run) (x0,x1,x2)
def zbhe:Ann:=⟨[],[],[],za7c,[]⟩
def zbhf:=EndD.mk (LQ.kp 0 0 (LQ.kp 1 0 (LQ.v intP (LQ.seq (LP.q wldL) (LP.q zvg))))) ⟨[3,4,6],[]⟩ [.cells 102 159,.cells 77 159]
def zazu:=EndD.mk (Par.q boolP) ⟨[2],[]⟩ []
def zazv:EndD (Unit):=⟨LQ.nil,⟨[],[]⟩,[]⟩
def za3v:St→Option LR:=L2 74 5 0 zbhf .ret zazu (.exit 2) zazv (u3 zdw)
def zs205b:=sub (fb Tryz.f5) [0,1,0,1,1,1,1,1]
theorem zbhg:zk (za7d).env 0 zs205b za3v :=
 zgs (A:=zbhe) za7e fM trivial (k:=z8 zs205b) (by kernel_rfl) rfl rfl (by rintro ⟨x0,x1,x2⟩;kernel_rfl)
def zsf (a0:(List Deed)): Tr (Bool) :=
 (.bind (z2s) fun v1 =>
 (.bind (zu9) fun v2 =>
 (.two (zls a0 0 v1 v2) (fun v3 =>
  (.leaf v3)) (fun v4 =>
  (.guard ((za9 v4.1).isSome=true)
  (.guard ((zfm ((za9 v4.1).getD default).1 v4.2.P).isSome=true)
  (.ite (!((zfm ((za9 v4.1).getD default).1 v4.2.P).getD default))
   (.leaf false)
   (.two (zlt (-1) ((za9 v4.1).getD default).2 v4.2) (fun v5 =>
    (.leaf v5)) (fun v6 =>
    (.leaf true))))))))))
def zla (a0:(List Deed)):=(zsf a0).run
def qr_law_WorldPlays:=(Par.q boolP)
def zaa9:SpecT:=zn 0 (Par.q deedsP) 1 [] zsf default qr_law_WorldPlays 1 []
theorem z9o:ze Tryz.prog 5 (zaa9).spec :=
 sK (A:=⟨[([0,1,0,1,1,1],za3u),([0,1,0,1,1,1,1,1],za3v)],[],[[1,0,1,1]],za7c,[]⟩) za7e fM Tryz.func5 (c:=(fb Tryz.f5)) (by kernel_rfl) (Lc:=0) ⟨zbhd,zbhg,trivial⟩ _ _ 5 _ _ _ _ _ _ [] (by rintro a0;kernel_rfl)
end
