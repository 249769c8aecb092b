/-
  The functions, each by its tree.
-/
import Derived.Test.YtobfadhgiaphnaaGreatXAbFun
import Derived.Test.YtobfadhgiaphnaaGreatXAbStructs
import Derived.Test.YtobfadhgiaphnaaGreatXFBank
import Derived.Test.YtobfadhgiaphnaaGreatXFCodec
import Derived.Test.YtobfadhgiaphnaaGreatXFCons
import Derived.Test.YtobfadhgiaphnaaGreatXFLine
import Derived.Test.YtobfadhgiaphnaaGreatXFProv
import Derived.Test.YtobfadhgiaphnaaGreatXFRatio
import Derived.Test.YtobfadhgiaphnaaGreatXFRefA
import Derived.Test.YtobfadhgiaphnaaGreatXFRefB
import Derived.Test.YtobfadhgiaphnaaGreatXFRefC
import Derived.Test.YtobfadhgiaphnaaGreatXFRefP
import Derived.Test.YtobfadhgiaphnaaGreatXFRefW
import Derived.Test.YtobfadhgiaphnaaGreatXFStakeA
import Derived.Test.YtobfadhgiaphnaaGreatXFStakeB
import Derived.Test.YtobfadhgiaphnaaGreatXFWld
import Derived.Test.YtobfadhgiaphnaaGreatXFacts
namespace Go.Proofs.YtobfadhgiaphnaaGreat.Ab
open Go Go.RowKit
set_option maxRecDepth 100000
set_option linter.unusedVariables false
set_option linter.unusedSimpArgs false
noncomputable section
def zbci:List (List Nat):=[[0],[0,3,4],[0,3,4,5],[0,3,4,5,23],[2],[0,3,4,5,7],[0,3,7,50],[2],[0,3,7,8],[0,3,7,8,54],[0,3,7,8],[0,3,7,8,67],[2],[2]]
noncomputable def zbcj:EnvT:=⟨Tryz.prog,zw [(6,zabi),(7,z2t),(8,z2u)]⟩
theorem zbck:(zbcj).Ok:=zd ⟨zain,zabj,zabk,trivial⟩
def zfn (x0:(List Deed)) (x1:(List Reply)) (x2:Int) (x3:zt5): Tr (((List Deed)×(List Reply)×Int×zt5)⊕((Bool)⊕(Unit))) :=
 (.ite (decide (x2 < ((x0.length:Nat):Int)))
  (.guard ((0:Int)≤x2∧x2 < ((Sl.len (.replies x1):Nat):Int))
  (.guard ((0:Int)≤x2∧x2 < ((Sl.len (.deeds x0):Nat):Int))
  (.guard ((zgr (x0.getD x2.toNat default) x3).isSome=true)
  (.ite (!(((x1.getD x2.toNat default).Code==((zgr (x0.getD x2.toNat default) x3).getD default).1.Code)&&(((x1.getD x2.toNat default).N==((zgr (x0.getD x2.toNat default) x3).getD default).1.N)&&true)))
   (.leaf (.inr (.inl false)))
   (.leaf (.inl (x0,x1,IntKind.i64.wrap (x2+1),((zgr (x0.getD x2.toNat default) x3).getD default).2)))))))
  (.leaf (.inr (.inr ()))))
def zl5 (x0:(List Deed)) (x1:(List Reply)) (x2:Int) (x3:zt5):=zbp (fun s:(List Deed)×(List Reply)×Int×zt5=>(zfn s.1 s.2.1 s.2.2.1 s.2.2.2).run) (x0,x1,x2,x3)
def zbcl:Ann:=⟨[],[],[],zbci,[]⟩
def zbcm:=EndD.mk (LQ.v deedsP (LQ.v z9i (LQ.kp 0 0 (LQ.v intP (LP.q zv2))))) ⟨[0,3,7,8],[.pub 0,.nilsl 0 (.deeds []),.pub 3,.nilsl 3 (.replies [])]⟩ [.cells 77 159]
def zawt:=EndD.mk (Par.q boolP) ⟨[2],[]⟩ []
def zawu:EndD (Unit):=⟨LQ.nil,⟨[],[]⟩,[]⟩
def za0j:St→Option LR:=L2 68 5 0 zbcm .ret zawt (.exit 0) zawu (u4 zfn)
def zs204a:=sub (fb Tryz.f3) [0,1,0,1,1,1,1,1,1]
theorem zbcn:zk (zbcj).env 0 zs204a za0j :=
 zkf (A:=zbcl) zbck fM trivial (k:=zab zs204a) (by kernel_rfl) rfl rfl (by rintro ⟨x0,x1,x2,x3⟩;kernel_rfl)
def zto (a0:(List Deed)): Tr (Bool) :=
 (.guard ((0+Sl.len (.deeds a0))*48≤140737488355328)
 (.bind (zme a0) fun v2 =>
 (.bind (zme [(⟨99,0,0,0,0,false,false⟩:Deed)]) fun v4 =>
 (.ite (decide (((a0.length:Nat):Int) > 600))
  (.leaf (((v2.2==6)&&(((v2.1.length:Nat):Int)==0))&&(((v4.1.length:Nat):Int)==1)))
  (.bind (ztm) fun v5 =>
  (.ite (((v2.2 != 0)||(((v2.1.length:Nat):Int) != ((a0.length:Nat):Int)))||(((v4.1.length:Nat):Int) != 1))
   (.leaf false)
   (.two (zl5 a0 v2.1 0 v5) (fun v6 =>
    (.leaf v6)) (fun v7 =>
    (.leaf true)))))))))
def zlj (a0:(List Deed)):=(zto a0).run
def zabl:SpecT:=zm 0 (Par.q deedsP) 1 [] zto default (Par.q boolP) 1 []
theorem z81:ze Tryz.prog 3 (zabl).spec :=
 sK (A:=⟨[([0,1,0,1,1,1,1,1,1],za0j)],[],[],zbci,[]⟩) zbck fM Tryz.func3 (c:=(fb Tryz.f3)) (by kernel_rfl) (Lc:=0) ⟨zbcn,trivial⟩ _ _ 5 _ _ _ _ _ _ [] (by rintro a0;kernel_rfl)
end
