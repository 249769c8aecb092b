/-
  The functions, each by its tree.
-/
import Derived.Test.YtobfadhgiaphnaaGreatXAbFun
import Derived.Test.YtobfadhgiaphnaaGreatXAbSort2
import Derived.Test.YtobfadhgiaphnaaGreatXAbStructs
import Derived.Test.YtobfadhgiaphnaaGreatXFBank
import Derived.Test.YtobfadhgiaphnaaGreatXFRatio
import Derived.Test.YtobfadhgiaphnaaGreatXFacts
namespace Go.Proofs.YtobfadhgiaphnaaGreat.Ab
open Go Go.RowKit
set_option maxRecDepth 100000
set_option linter.unusedVariables false
set_option linter.unusedSimpArgs false
noncomputable section
def zv63:List (List Nat):=[[0,1],[1,7,8,9],[1,7,8,9,10],[1,6,7,8,9],[1,6,7,8,9,16],[4],[1,7,8,9],[4]]
def zja (x0:Int) (x1:(List Power)) (x2 x3:Int): Tr ((Int×(List Power)×Int×Int)⊕((Int)⊕(Unit))) :=
 (.ite (decide (x3 < x2))
  (.guard ((0:Int)≤x3∧x3 < ((Sl.len (.powers x1):Nat):Int))
  (.ite (((x1.getD x3.toNat default).V)==x0)
   (.leaf (.inr (.inl ((x1.getD x3.toNat default).N))))
   (.leaf (.inl (x0,x1,x2,IntKind.i64.wrap (x3+1))))))
  (.leaf (.inr (.inr ()))))
def zys (x0:Int) (x1:(List Power)) (x2 x3:Int):=zbp (fun s:Int×(List Power)×Int×Int=>(zja s.1 s.2.1 s.2.2.1 s.2.2.2).run) (x0,x1,x2,x3)
def zbgd:Ann:=⟨[],[],[],zv63,[]⟩
def zbge:=EndD.mk (LQ.v intP (LQ.v zg (LQ.v intP (Par.q intP)))) ⟨[1,7,8,9],[.pub 7,.nilsl 7 (.powers [])]⟩ []
def za18:=EndD.mk (Par.q intP) ⟨[4],[]⟩ []
def za19:EndD (Unit):=⟨LQ.nil,⟨[],[]⟩,[]⟩
def za6y:St→Option LR:=L2 20 3 0 zbge .ret za18 (.exit 0) za19 (u4 zja)
def zs63a:=sub (fb Tryz.f177) [0,1,0,1]
theorem zbgf:zk (zyN).env 0 zs63a za6y :=
 zkf (A:=zbgd) zhN fM trivial (k:=zab zs63a) (by kernel_rfl) rfl rfl (by rintro ⟨x0,x1,x2,x3⟩;kernel_rfl)
def z0d (a0:(List Power)) (a1:Int): Tr (Int) :=
 (.two (zys a1 a0 ((a0.length:Nat):Int) 0) (fun v1 =>
  (.leaf v1)) (fun v2 =>
  (.leaf 0)))
def zm7 (a0:(List Power)) (a1:Int):=(z0d a0 a1).run
def z0e:SpecT:=zm 0 (LQ.v zg (Par.q intP)) 2 [] (u2 z0d) default (Par.q intP) 1 []
theorem z5s:ze Tryz.prog 177 (z0e).spec :=
 sK (A:=⟨[([0,1,0,1],za6y)],[],[],zv63,[]⟩) zhN fM Tryz.func177 (c:=(fb Tryz.f177)) (by kernel_rfl) (Lc:=0) ⟨zbgf,trivial⟩ _ _ 3 _ _ _ _ _ _ [] (by rintro ⟨a0,a1⟩;kernel_rfl)
def zv64:List (List Nat):=[[0,1],[0,1,5],[0,1,5,8],[0,1,5,8,9],[0,1,5,6,8],[0,1,5,6,7,8],[0,1,5,6,7,8,18],[0,1,5,8],[0,1,5,8],[4]]
noncomputable def zy64:EnvT:=⟨Tryz.prog,zw [(177,z0e)]⟩
theorem zh64:(zy64).Ok:=zd ⟨z5s,trivial⟩
def zjb (x0 x1:(List Power)) (x2:Int) (x3:(List Power)): Tr (((List Power)×(List Power)×Int×(List Power))⊕((List Power))) :=
 (.ite (decide (x2 < 6))
  (.bind (zm7 x1 x2) fun v1 =>
  (.bind (zm7 x0 x2) fun v2 =>
  (.ite (v1 != v2)
   (.guard ((Sl.len (.powers x3)+Sl.len (.powers [(⟨x2,v1⟩:Power)]))*16≤140737488355328)
   (.leaf (.inl (x0,x1,IntKind.i64.wrap (x2+1),x3++[(⟨x2,v1⟩:Power)]))))
   (.leaf (.inl (x0,x1,IntKind.i64.wrap (x2+1),x3))))))
  (.leaf (.inr x3)))
def zqn (x0 x1:(List Power)) (x2:Int) (x3:(List Power)):=zbp (fun s:(List Power)×(List Power)×Int×(List Power)=>(zjb s.1 s.2.1 s.2.2.1 s.2.2.2).run) (x0,x1,x2,x3)
def zbgg:Ann:=⟨[],[],[],zv64,[]⟩
def zbgh:=EndD.mk (LQ.v zg (LQ.v zg (LQ.k (LQ.c (.own 0)) (LQ.v intP (Par.q zg))))) ⟨[0,1,5,8],[.pub 0,.nilsl 0 (.powers []),.pub 1,.nilsl 1 (.powers []),.nilown 5 154 (.powers [])]⟩ [.rows 154]
def za2a:=EndD.mk (LQ.k (LQ.c (.own 0)) (Par.q zg)) ⟨[5],[.nilown 5 154 (.powers [])]⟩ [.rows 154]
def za6z:St→Option LR:=L1 27 5 0 zbgh (.exit 0) za2a (u4 zjb)
def zs64a:=sub (fb Tryz.f172) [0,1,0,1,1]
theorem zbgi:zk (zy64).env 0 zs64a za6z :=
 zb2 (A:=zbgg) zh64 fM trivial (k:=zab zs64a) (by kernel_rfl) rfl (by rintro ⟨x0,x1,x2,x3⟩;kernel_rfl)
def z0f (a0 a1:(List Power)): Tr ((List Power)) :=
 (.bind (zqn a0 a1 0 []) fun v3 =>
 (.leaf v3))
def zfd (a0 a1:(List Power)):=(z0f a0 a1).run
def z8c:SpecT:=zm 0 (LQ.v zg (Par.q zg)) 2 [] (u2 z0f) default (Par.q zg) 1 []
theorem zagf:ze Tryz.prog 172 (z8c).spec :=
 sK (A:=⟨[([0,1,0,1,1],za6z)],[],[],zv64,[]⟩) zh64 fM Tryz.func172 (c:=(fb Tryz.f172)) (by kernel_rfl) (Lc:=0) ⟨zbgi,trivial⟩ _ _ 5 _ _ _ _ _ _ [.pub 4] (by rintro ⟨a0,a1⟩;kernel_rfl)
def zv65:List (List Nat):=[[0,1],[0,1,5],[0,1,5,10],[0,1,5,10,11],[0,1,5,6,10],[0,1,5,6,7,10],[0,1,5,6,7,10,16,17,18],[0,1,5,6,7,10,16,17,18,19],[0,1,5,6,7,9,10,16,17,18],[0,1,5,6,7,9,10,16,17,18,25],[0,1,5,6,7,10,16,17,18],[0,1,5,6,7,10,16,17,18],[0,1,5,6,7,10,30],[0,1,5,10],[0,1,5,10],[4]]
noncomputable def zy65:EnvT:=⟨Tryz.prog,zw [(177,z0e)]⟩
theorem zh65:(zy65).Ok:=zd ⟨z5s,trivial⟩
def zhr (x0 x1:(List Power)) (x2 x3 x4:Int) (x5:(List Power)) (x6 x7:Int) (x8:(List Power)): Tr (((List Power)×(List Power)×Int×Int×Int×(List Power)×Int×Int×(List Power))⊕((List Power)×(List Power)×Int×Int×Int×(List Power))) :=
 (.ite (decide (x7 < x6))
  (.guard ((0:Int)≤x7∧x7 < ((Sl.len (.powers x5):Nat):Int))
  (.ite (((x5.getD x7.toNat default).V)==x2)
   (.leaf (.inl (x0,x1,x2,(x5.getD x7.toNat default).N,x4,x5,x6,IntKind.i64.wrap (x7+1),x8)))
   (.leaf (.inl (x0,x1,x2,x3,x4,x5,x6,IntKind.i64.wrap (x7+1),x8)))))
  (.leaf (.inr (x0,x1,x2,x3,x4,x8))))
def zod (x0 x1:(List Power)) (x2 x3 x4:Int) (x5:(List Power)) (x6 x7:Int) (x8:(List Power)):=zbp (fun s:(List Power)×(List Power)×Int×Int×Int×(List Power)×Int×Int×(List Power)=>(zhr s.1 s.2.1 s.2.2.1 s.2.2.2.1 s.2.2.2.2.1 s.2.2.2.2.2.1 s.2.2.2.2.2.2.1 s.2.2.2.2.2.2.2.1 s.2.2.2.2.2.2.2.2).run) (x0,x1,x2,x3,x4,x5,x6,x7,x8)
def zbgm:Ann:=⟨[],[],[],zv65,[]⟩
def zbgn:=EndD.mk (LQ.v zg (LQ.v zg (LQ.k (LQ.c (.own 0)) (LQ.v intP (LQ.v intP (LQ.v intP (LQ.v zg (LQ.v intP (LQ.v intP (Par.q zg)))))))))) ⟨[0,1,5,6,7,10,16,17,18],[.pub 0,.nilsl 0 (.powers []),.pub 1,.nilsl 1 (.powers []),.nilown 5 154 (.powers []),.pub 16,.nilsl 16 (.powers [])]⟩ [.rows 154]
def za2b:=EndD.mk (LQ.v zg (LQ.v zg (LQ.k (LQ.c (.own 0)) (LQ.v intP (LQ.v intP (LQ.v intP (Par.q zg))))))) ⟨[0,1,5,6,7,10],[.pub 0,.nilsl 0 (.powers []),.pub 1,.nilsl 1 (.powers []),.nilown 5 154 (.powers [])]⟩ [.rows 154]
def za60:St→Option LR:=L1 39 5 0 zbgn (.exit 2) za2b (u9 zhr)
def zs65a:=sub (fb Tryz.f130) [0,1,0,1,1,0,0,1,1,0,0,1,0,1,1]
theorem zbgo:zk (zy65).env 0 zs65a za60 :=
 zb2 (A:=zbgm) zh65 fM trivial (k:=zab zs65a) (by kernel_rfl) rfl (by rintro ⟨x0,x1,x2,x3,x4,x5,x6,x7,x8⟩;kernel_rfl)
def zhs (x0 x1:(List Power)) (x2:Int) (x3:(List Power)): Tr (((List Power)×(List Power)×Int×(List Power))⊕((List Power))) :=
 (.ite (decide (x2 < 6))
  (.bind (zm7 x0 x2) fun v1 =>
  (.bind (zod x0 x1 x2 v1 x2 x1 ((x1.length:Nat):Int) 0 x3) fun v2 =>
  (.ite (decide (v2.2.2.2.1 > 0))
   (.guard ((Sl.len (.powers v2.2.2.2.2.2)+Sl.len (.powers [(⟨v2.2.2.1,v2.2.2.2.1⟩:Power)]))*16≤140737488355328)
   (.leaf (.inl (v2.1,v2.2.1,IntKind.i64.wrap (v2.2.2.2.2.1+1),v2.2.2.2.2.2++[(⟨v2.2.2.1,v2.2.2.2.1⟩:Power)]))))
   (.leaf (.inl (v2.1,v2.2.1,IntKind.i64.wrap (v2.2.2.2.2.1+1),v2.2.2.2.2.2))))))
  (.leaf (.inr x3)))
def zoe (x0 x1:(List Power)) (x2:Int) (x3:(List Power)):=zbp (fun s:(List Power)×(List Power)×Int×(List Power)=>(zhs s.1 s.2.1 s.2.2.1 s.2.2.2).run) (x0,x1,x2,x3)
def zbgp:Ann:=⟨[([0,1,0,1,1,0,0,1,1,0,0,1,0,1,1],za60)],[],[],zv65,[]⟩
def zbgq:=EndD.mk (LQ.v zg (LQ.v zg (LQ.k (LQ.c (.own 0)) (LQ.v intP (Par.q zg))))) ⟨[0,1,5,10],[.pub 0,.nilsl 0 (.powers []),.pub 1,.nilsl 1 (.powers []),.nilown 5 154 (.powers [])]⟩ [.rows 154]
def za2c:=EndD.mk (LQ.k (LQ.c (.own 0)) (Par.q zg)) ⟨[5],[.nilown 5 154 (.powers [])]⟩ [.rows 154]
def za61:St→Option LR:=L1 39 5 0 zbgq (.exit 0) za2c (u4 zhs)
def zs65b:=sub (fb Tryz.f130) [0,1,0,1,1]
theorem zbgr:zk (zy65).env 0 zs65b za61 :=
 zb2 (A:=zbgp) zh65 fM ⟨zbgo,trivial⟩ (k:=zab zs65b) (by kernel_rfl) rfl (by rintro ⟨x0,x1,x2,x3⟩;kernel_rfl)
def zxz (a0 a1:(List Power)): Tr ((List Power)) :=
 (.bind (zoe a0 a1 0 []) fun v3 =>
 (.leaf v3))
def zvg (a0 a1:(List Power)):=(zxz a0 a1).run
def z5t:SpecT:=zm 0 (LQ.v zg (Par.q zg)) 2 [] (u2 zxz) default (Par.q zg) 1 []
theorem zadd:ze Tryz.prog 130 (z5t).spec :=
 sK (A:=⟨[([0,1,0,1,1],za61)],[],[],zv65,[]⟩) zh65 fM Tryz.func130 (c:=(fb Tryz.f130)) (by kernel_rfl) (Lc:=0) ⟨zbgr,trivial⟩ _ _ 5 _ _ _ _ _ _ [.pub 4] (by rintro ⟨a0,a1⟩;kernel_rfl)
def zv66:List (List Nat):=[[0],[0,3],[3,6,7,8],[3,6,7,8,9],[3,5,6,7,8],[3,6,7,8],[3,6,7,8],[2]]
def zk1 (x0:Int) (x1:(List Power)) (x2 x3:Int): Tr ((Int×(List Power)×Int×Int)⊕(Int)) :=
 (.ite (decide (x3 < x2))
  (.guard ((0:Int)≤x3∧x3 < ((Sl.len (.powers x1):Nat):Int))
  (.leaf (.inl (IntKind.i64.wrap (x0+((x1.getD x3.toNat default).N)),x1,x2,IntKind.i64.wrap (x3+1)))))
  (.leaf (.inr x0)))
def zss (x0:Int) (x1:(List Power)) (x2 x3:Int):=zbp (fun s:Int×(List Power)×Int×Int=>(zk1 s.1 s.2.1 s.2.2.1 s.2.2.2).run) (x0,x1,x2,x3)
def zbgs:Ann:=⟨[],[],[],zv66,[]⟩
def zbgt:=EndD.mk (LQ.v intP (LQ.v zg (LQ.v intP (Par.q intP)))) ⟨[3,6,7,8],[.pub 6,.nilsl 6 (.powers [])]⟩ []
def za2d:=EndD.mk (Par.q intP) ⟨[3],[]⟩ []
def za62:St→Option LR:=L1 18 3 0 zbgt (.exit 0) za2d (u4 zk1)
def zs66a:=sub (fb Tryz.f122) [0,1,0,1,1]
theorem zbgu:zk (zyN).env 0 zs66a za62 :=
 zb2 (A:=zbgs) zhN fM trivial (k:=zab zs66a) (by kernel_rfl) rfl (by rintro ⟨x0,x1,x2,x3⟩;kernel_rfl)
def z3u (a0:(List Power)): Tr (Int) :=
 (.bind (zss 0 a0 ((a0.length:Nat):Int) 0) fun v1 =>
 (.leaf v1))
def zpp (a0:(List Power)):=(z3u a0).run
def zaa1:SpecT:=zm 0 (Par.q zg) 1 [] z3u default (Par.q intP) 1 []
theorem zaig:ze Tryz.prog 122 (zaa1).spec :=
 sK (A:=⟨[([0,1,0,1,1],za62)],[],[],zv66,[]⟩) zhN fM Tryz.func122 (c:=(fb Tryz.f122)) (by kernel_rfl) (Lc:=0) ⟨zbgu,trivial⟩ _ _ 3 _ _ _ _ _ _ [] (by rintro a0;kernel_rfl)
def zv67:List (List Nat):=[[1],[1,3],[3,8,9],[3,8,9,10],[3,4,5,8,9],[3,4,5,6,8,9],[3,4,6,8,9,22],[3,8,9],[3,8,9],[3],[3],[3],[2]]
noncomputable def zy67:EnvT:=⟨Tryz.prog,zw [(168,F_sort_SliceStable),(170,F_sort_Slice)]⟩
theorem zh67:(zy67).Ok:=zd ⟨z20,zafl,trivial⟩
def zk2 (x0:(A6 zi)) (x1:Int) (x2:(List Power)): Tr (((A6 zi)×Int×(List Power))⊕((List Power))) :=
 (.ite (decide (x1 < 6))
  (.guard ((0:Int)≤x1∧(x1:Int) < 6)
  (.guard ((100:Int)≠0)
  (.ite ((!(A6.get ⟨x0.x0.Jailed,x0.x1.Jailed,x0.x2.Jailed,x0.x3.Jailed,x0.x4.Jailed,x0.x5.Jailed⟩ x1))&&(decide ((IntKind.i64.wrap (Int.tdiv (A6.get ⟨x0.x0.Tokens,x0.x1.Tokens,x0.x2.Tokens,x0.x3.Tokens,x0.x4.Tokens,x0.x5.Tokens⟩ x1) 100)) > 0)))
   (.guard ((Sl.len (.powers x2)+Sl.len (.powers [(⟨x1,IntKind.i64.wrap (Int.tdiv (A6.get ⟨x0.x0.Tokens,x0.x1.Tokens,x0.x2.Tokens,x0.x3.Tokens,x0.x4.Tokens,x0.x5.Tokens⟩ x1) 100)⟩:Power)]))*16≤140737488355328)
   (.leaf (.inl (x0,IntKind.i64.wrap (x1+1),x2++[(⟨x1,IntKind.i64.wrap (Int.tdiv (A6.get ⟨x0.x0.Tokens,x0.x1.Tokens,x0.x2.Tokens,x0.x3.Tokens,x0.x4.Tokens,x0.x5.Tokens⟩ x1) 100)⟩:Power)]))))
   (.leaf (.inl (x0,IntKind.i64.wrap (x1+1),x2))))))
  (.leaf (.inr x2)))
def zst (x0:(A6 zi)) (x1:Int) (x2:(List Power)):=zbp (fun s:(A6 zi)×Int×(List Power)=>(zk2 s.1 s.2.1 s.2.2).run) (x0,x1,x2)
def zbgv:Ann:=⟨[],[],[],zv67,[]⟩
def zbgw:=EndD.mk (LQ.kp 0 0 (LQ.seq (Par.q (Par.ofLP (a6L zen))) (LQ.v intP (LQ.k (LQ.c (.own 1)) (Par.q zg))))) ⟨[3,8,9],[.nilcell 3 0 154 (.powers [])]⟩ [.cells 49 1,.rows 154]
def za2e:=EndD.mk (LQ.kp 0 0 (LQ.k (LQ.c (.own 1)) (Par.q zg))) ⟨[3],[.nilcell 3 0 154 (.powers [])]⟩ [.cells 49 1,.rows 154]
def za63:St→Option LR:=L1 44 7 0 zbgw (.exit 0) za2e (u3 zk2)
def zs67a:=sub (fb Tryz.f125) [0,1,0,1,1]
theorem zbgx:zk (zy67).env 0 zs67a za63 :=
 zb2 (A:=zbgv) zh67 fM trivial (k:=zab zs67a) (by kernel_rfl) rfl (by rintro ⟨x0,x1,x2⟩;kernel_rfl)
def z3v (a0:Stake): Tr ((List Power)) :=
 (.bind (zst (⟨(⟨a0.Validators.Tokens.x0,a0.Validators.Shares.x0,a0.Validators.Lost.x0,a0.Validators.Jailed.x0,a0.Validators.Dead.x0⟩:zi),(⟨a0.Validators.Tokens.x1,a0.Validators.Shares.x1,a0.Validators.Lost.x1,a0.Validators.Jailed.x1,a0.Validators.Dead.x1⟩:zi),(⟨a0.Validators.Tokens.x2,a0.Validators.Shares.x2,a0.Validators.Lost.x2,a0.Validators.Jailed.x2,a0.Validators.Dead.x2⟩:zi),(⟨a0.Validators.Tokens.x3,a0.Validators.Shares.x3,a0.Validators.Lost.x3,a0.Validators.Jailed.x3,a0.Validators.Dead.x3⟩:zi),(⟨a0.Validators.Tokens.x4,a0.Validators.Shares.x4,a0.Validators.Lost.x4,a0.Validators.Jailed.x4,a0.Validators.Dead.x4⟩:zi),(⟨a0.Validators.Tokens.x5,a0.Validators.Shares.x5,a0.Validators.Lost.x5,a0.Validators.Jailed.x5,a0.Validators.Dead.x5⟩:zi)⟩:(A6 zi)) 0 []) fun v1 =>
 (.bind (zsb v1) fun v2 =>
 (.guard ((0:Int)≤(if 4 < ((v2.length:Nat):Int) then 4 else ((v2.length:Nat):Int))∧(if 4 < ((v2.length:Nat):Int) then 4 else ((v2.length:Nat):Int))≤((Sl.len (.powers v2):Nat):Int))
 (.bind (z4u ((v2.drop 0).take ((if 4 < ((v2.length:Nat):Int) then 4 else ((v2.length:Nat):Int)).toNat - 0))) fun v3 =>
 (.leaf v3)))))
def z0g (a0:Stake):=(z3v a0).run
def zaa2:SpecT:=zm 0 (Par.q (Par.ofLP stakeL)) 1 [] z3v default (Par.q zg) 1 []
theorem zaih:ze Tryz.prog 125 (zaa2).spec :=
 sK (A:=⟨[([0,1,0,1,1],za63)],[],[],zv67,[]⟩) zh67 fM Tryz.func125 (c:=(fb Tryz.f125)) (by kernel_rfl) (Lc:=0) ⟨zbgx,trivial⟩ _ _ 7 _ _ _ _ _ _ [.pub 2] (by rintro a0;kernel_rfl)
end
