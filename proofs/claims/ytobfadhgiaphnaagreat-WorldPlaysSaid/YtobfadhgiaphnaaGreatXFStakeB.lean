/-
  The functions, each by its tree.
-/
import Derived.Test.YtobfadhgiaphnaaGreatXAbC
import Derived.Test.YtobfadhgiaphnaaGreatXAbSort2
import Derived.Test.YtobfadhgiaphnaaGreatXFBank
import Derived.Test.YtobfadhgiaphnaaGreatXFRatio
import Derived.Test.YtobfadhgiaphnaaGreatXFacts
namespace Go.Proofs.YtobfadhgiaphnaaGreat.Ab
open Go Go.RowKit
open Go.IntKind (i64 u64)
set_option maxRecDepth 100000
set_option linter.unusedVariables false
set_option linter.unusedSimpArgs false
noncomputable section
def zv63:List (List Nat):=[[0,1],[1,7,8,9],[1,7,8,9,10],[1,6,7,8,9],[1,6,7,8,9,16],[4],[1,7,8,9],[4]]
def zj8 (x0:Int) (x1:(List Power)) (x2 x3:Int): Tr ((Int×(List Power)×Int×Int)⊕((Int)⊕(Unit))) :=
 (.ite (decide (x3 < x2))
  (.guard ((0:Int)≤x3∧x3 < ((Sl.len (.powers x1):Nat):Int))
  (.ite (((x1.getD x3.toNat default).V)==x0)
   (.leaf (.inr (.inl ((x1.getD x3.toNat default).N))))
   (.leaf (.inl (x0,x1,x2,i64.wrap (x3+1))))))
  (.leaf (.inr (.inr ()))))
def z0t (x0:Int) (x1:(List Power)) (x2 x3:Int):=zbl (fun s:Int×(List Power)×Int×Int=>(zj8 s.1 s.2.1 s.2.2.1 s.2.2.2).run) (x0,x1,x2,x3)
def zbla:Ann:=⟨[],[],[],zv63,[]⟩
def zblb:=EndD.mk (LQ.v intP (LQ.v zf (LQ.v intP (Par.q intP)))) ⟨[1,7,8,9],[.pub 7,.nilsl 7 (.powers [])]⟩ []
def za5l:=EndD.mk (Par.q intP) ⟨[4],[]⟩ []
def za5m:EndD (Unit):=⟨LQ.nil,⟨[],[]⟩,[]⟩
def zba8:St→Option LR:=L2 20 3 0 zblb .ret za5l (.exit 0) za5m (u4 zj8)
def zs63a:=sub (fb Tryz.f177) [0,1,0,1]
theorem zblc:zk (zyN).env 0 zs63a zba8 :=
 zgs (A:=zbla) zhN fM trivial (k:=z8 zs63a) (by kernel_rfl) rfl rfl (by rintro ⟨x0,x1,x2,x3⟩;kernel_rfl)
def z2a (a0:(List Power)) (a1:Int): Tr (Int) :=
 (.two (z0t a1 a0 ((a0.length:Nat):Int) 0) (fun v1 =>
  (.leaf v1)) (fun v2 =>
  (.leaf 0)))
def zoa (a0:(List Power)) (a1:Int):=(z2a a0 a1).run
def z2b:SpecT:=zn 0 (LQ.v zf (Par.q intP)) 2 [] (u2 z2a) default (Par.q intP) 1 []
theorem z7w:ze Tryz.prog 177 (z2b).spec :=
 sK (A:=⟨[([0,1,0,1],zba8)],[],[],zv63,[]⟩) zhN fM Tryz.func177 (c:=(fb Tryz.f177)) (by kernel_rfl) (Lc:=0) ⟨zblc,trivial⟩ _ _ 3 _ _ _ _ _ _ [] (by rintro ⟨a0,a1⟩;kernel_rfl)
def zv64:List (List Nat):=[[0,1],[0,1,5],[0,1,5,8],[0,1,5,8,9],[0,1,5,6,8],[0,1,5,6,7,8],[0,1,5,6,7,8,18],[0,1,5,8],[0,1,5,8],[4]]
noncomputable def zy64:EnvT:=⟨Tryz.prog,zw [(177,z2b)]⟩
theorem zh64:(zy64).Ok:=zd ⟨z7w,trivial⟩
def zj9 (x0 x1:(List Power)) (x2:Int) (x3:(List Power)): Tr (((List Power)×(List Power)×Int×(List Power))⊕((List Power))) :=
 (.ite (decide (x2 < 6))
  (.bind (zoa x1 x2) fun v1 =>
  (.bind (zoa x0 x2) fun v2 =>
  (.ite (v1 != v2)
   (.guard ((Sl.len (.powers x3)+Sl.len (.powers [(⟨x2,v1⟩:Power)]))*16≤140737488355328)
   (.leaf (.inl (x0,x1,i64.wrap (x2+1),x3++[(⟨x2,v1⟩:Power)]))))
   (.leaf (.inl (x0,x1,i64.wrap (x2+1),x3))))))
  (.leaf (.inr x3)))
def zr1 (x0 x1:(List Power)) (x2:Int) (x3:(List Power)):=zbl (fun s:(List Power)×(List Power)×Int×(List Power)=>(zj9 s.1 s.2.1 s.2.2.1 s.2.2.2).run) (x0,x1,x2,x3)
def zbld:Ann:=⟨[],[],[],zv64,[]⟩
def zble:=EndD.mk (LQ.v zf (LQ.v zf (LQ.k (LQ.c (.own 0)) (LQ.v intP (Par.q zf))))) ⟨[0,1,5,8],[.pub 0,.nilsl 0 (.powers []),.pub 1,.nilsl 1 (.powers []),.nilown 5 154 (.powers [])]⟩ [.rows 154]
def za5n:=EndD.mk (LQ.k (LQ.c (.own 0)) (Par.q zf)) ⟨[5],[.nilown 5 154 (.powers [])]⟩ [.rows 154]
def zba9:St→Option LR:=L1 27 5 0 zble (.exit 0) za5n (u4 zj9)
def zs64a:=sub (fb Tryz.f172) [0,1,0,1,1]
theorem zblf:zk (zy64).env 0 zs64a zba9 :=
 zb5 (A:=zbld) zh64 fM trivial (k:=z8 zs64a) (by kernel_rfl) rfl (by rintro ⟨x0,x1,x2,x3⟩;kernel_rfl)
def z2c (a0 a1:(List Power)): Tr ((List Power)) :=
 (.bind (zr1 a0 a1 0 []) fun v3 =>
 (.leaf v3))
def zf5 (a0 a1:(List Power)):=(z2c a0 a1).run
def zaai:SpecT:=zn 0 (LQ.v zf (Par.q zf)) 2 [] (u2 z2c) default (Par.q zf) 1 []
theorem zaip:ze Tryz.prog 172 (zaai).spec :=
 sK (A:=⟨[([0,1,0,1,1],zba9)],[],[],zv64,[]⟩) zh64 fM Tryz.func172 (c:=(fb Tryz.f172)) (by kernel_rfl) (Lc:=0) ⟨zblf,trivial⟩ _ _ 5 _ _ _ _ _ _ [.pub 4] (by rintro ⟨a0,a1⟩;kernel_rfl)
def zv65:List (List Nat):=[[0,1],[0,1,5],[0,1,5,10],[0,1,5,10,11],[0,1,5,6,10],[0,1,5,6,7,10],[0,1,5,6,7,10,16,17,18],[0,1,5,6,7,10,16,17,18,19],[0,1,5,6,7,9,10,16,17,18],[0,1,5,6,7,9,10,16,17,18,25],[0,1,5,6,7,10,16,17,18],[0,1,5,6,7,10,16,17,18],[0,1,5,6,7,10,30],[0,1,5,10],[0,1,5,10],[4]]
noncomputable def zy65:EnvT:=⟨Tryz.prog,zw [(177,z2b)]⟩
theorem zh65:(zy65).Ok:=zd ⟨z7w,trivial⟩
def zio (x0 x1:(List Power)) (x2 x3 x4:Int) (x5:(List Power)) (x6 x7:Int) (x8:(List Power)): Tr (((List Power)×(List Power)×Int×Int×Int×(List Power)×Int×Int×(List Power))⊕((List Power)×(List Power)×Int×Int×Int×(List Power))) :=
 (.ite (decide (x7 < x6))
  (.guard ((0:Int)≤x7∧x7 < ((Sl.len (.powers x5):Nat):Int))
  (.ite (((x5.getD x7.toNat default).V)==x2)
   (.leaf (.inl (x0,x1,x2,(x5.getD x7.toNat default).N,x4,x5,x6,i64.wrap (x7+1),x8)))
   (.leaf (.inl (x0,x1,x2,x3,x4,x5,x6,i64.wrap (x7+1),x8)))))
  (.leaf (.inr (x0,x1,x2,x3,x4,x8))))
def zpn (x0 x1:(List Power)) (x2 x3 x4:Int) (x5:(List Power)) (x6 x7:Int) (x8:(List Power)):=zbl (fun s:(List Power)×(List Power)×Int×Int×Int×(List Power)×Int×Int×(List Power)=>(zio s.1 s.2.1 s.2.2.1 s.2.2.2.1 s.2.2.2.2.1 s.2.2.2.2.2.1 s.2.2.2.2.2.2.1 s.2.2.2.2.2.2.2.1 s.2.2.2.2.2.2.2.2).run) (x0,x1,x2,x3,x4,x5,x6,x7,x8)
def zblj:Ann:=⟨[],[],[],zv65,[]⟩
def zblk:=EndD.mk (LQ.v zf (LQ.v zf (LQ.k (LQ.c (.own 0)) (LQ.v intP (LQ.v intP (LQ.v intP (LQ.v zf (LQ.v intP (LQ.v intP (Par.q zf)))))))))) ⟨[0,1,5,6,7,10,16,17,18],[.pub 0,.nilsl 0 (.powers []),.pub 1,.nilsl 1 (.powers []),.nilown 5 154 (.powers []),.pub 16,.nilsl 16 (.powers [])]⟩ [.rows 154]
def za5o:=EndD.mk (LQ.v zf (LQ.v zf (LQ.k (LQ.c (.own 0)) (LQ.v intP (LQ.v intP (LQ.v intP (Par.q zf))))))) ⟨[0,1,5,6,7,10],[.pub 0,.nilsl 0 (.powers []),.pub 1,.nilsl 1 (.powers []),.nilown 5 154 (.powers [])]⟩ [.rows 154]
def zbba:St→Option LR:=L1 39 5 0 zblk (.exit 2) za5o (u9 zio)
def zs65a:=sub (fb Tryz.f130) [0,1,0,1,1,0,0,1,1,0,0,1,0,1,1]
theorem zbll:zk (zy65).env 0 zs65a zbba :=
 zb5 (A:=zblj) zh65 fM trivial (k:=z8 zs65a) (by kernel_rfl) rfl (by rintro ⟨x0,x1,x2,x3,x4,x5,x6,x7,x8⟩;kernel_rfl)
def ziq (x0 x1:(List Power)) (x2:Int) (x3:(List Power)): Tr (((List Power)×(List Power)×Int×(List Power))⊕((List Power))) :=
 (.ite (decide (x2 < 6))
  (.bind (zoa x0 x2) fun v1 =>
  (.bind (zpn x0 x1 x2 v1 x2 x1 ((x1.length:Nat):Int) 0 x3) fun v2 =>
  (.ite (decide (v2.2.2.2.1 > 0))
   (.guard ((Sl.len (.powers v2.2.2.2.2.2)+Sl.len (.powers [(⟨v2.2.2.1,v2.2.2.2.1⟩:Power)]))*16≤140737488355328)
   (.leaf (.inl (v2.1,v2.2.1,i64.wrap (v2.2.2.2.2.1+1),v2.2.2.2.2.2++[(⟨v2.2.2.1,v2.2.2.2.1⟩:Power)]))))
   (.leaf (.inl (v2.1,v2.2.1,i64.wrap (v2.2.2.2.2.1+1),v2.2.2.2.2.2))))))
  (.leaf (.inr x3)))
def zpo (x0 x1:(List Power)) (x2:Int) (x3:(List Power)):=zbl (fun s:(List Power)×(List Power)×Int×(List Power)=>(ziq s.1 s.2.1 s.2.2.1 s.2.2.2).run) (x0,x1,x2,x3)
def zblm:Ann:=⟨[([0,1,0,1,1,0,0,1,1,0,0,1,0,1,1],zbba)],[],[],zv65,[]⟩
def zbln:=EndD.mk (LQ.v zf (LQ.v zf (LQ.k (LQ.c (.own 0)) (LQ.v intP (Par.q zf))))) ⟨[0,1,5,10],[.pub 0,.nilsl 0 (.powers []),.pub 1,.nilsl 1 (.powers []),.nilown 5 154 (.powers [])]⟩ [.rows 154]
def za5p:=EndD.mk (LQ.k (LQ.c (.own 0)) (Par.q zf)) ⟨[5],[.nilown 5 154 (.powers [])]⟩ [.rows 154]
def zbbb:St→Option LR:=L1 39 5 0 zbln (.exit 0) za5p (u4 ziq)
def zs65b:=sub (fb Tryz.f130) [0,1,0,1,1]
theorem zblo:zk (zy65).env 0 zs65b zbbb :=
 zb5 (A:=zblm) zh65 fM ⟨zbll,trivial⟩ (k:=z8 zs65b) (by kernel_rfl) rfl (by rintro ⟨x0,x1,x2,x3⟩;kernel_rfl)
def zzy (a0 a1:(List Power)): Tr ((List Power)) :=
 (.bind (zpo a0 a1 0 []) fun v3 =>
 (.leaf v3))
def zxb (a0 a1:(List Power)):=(zzy a0 a1).run
def z7x:SpecT:=zn 0 (LQ.v zf (Par.q zf)) 2 [] (u2 zzy) default (Par.q zf) 1 []
theorem zafl:ze Tryz.prog 130 (z7x).spec :=
 sK (A:=⟨[([0,1,0,1,1],zbbb)],[],[],zv65,[]⟩) zh65 fM Tryz.func130 (c:=(fb Tryz.f130)) (by kernel_rfl) (Lc:=0) ⟨zblo,trivial⟩ _ _ 5 _ _ _ _ _ _ [.pub 4] (by rintro ⟨a0,a1⟩;kernel_rfl)
def zv66:List (List Nat):=[[0],[0,3],[3,6,7,8],[3,6,7,8,9],[3,5,6,7,8],[3,6,7,8],[3,6,7,8],[2]]
def zl5 (x0:Int) (x1:(List Power)) (x2 x3:Int): Tr ((Int×(List Power)×Int×Int)⊕(Int)) :=
 (.ite (decide (x3 < x2))
  (.guard ((0:Int)≤x3∧x3 < ((Sl.len (.powers x1):Nat):Int))
  (.leaf (.inl (i64.wrap (x0+((x1.getD x3.toNat default).N)),x1,x2,i64.wrap (x3+1)))))
  (.leaf (.inr x0)))
def zua (x0:Int) (x1:(List Power)) (x2 x3:Int):=zbl (fun s:Int×(List Power)×Int×Int=>(zl5 s.1 s.2.1 s.2.2.1 s.2.2.2).run) (x0,x1,x2,x3)
def zblp:Ann:=⟨[],[],[],zv66,[]⟩
def zblq:=EndD.mk (LQ.v intP (LQ.v zf (LQ.v intP (Par.q intP)))) ⟨[3,6,7,8],[.pub 6,.nilsl 6 (.powers [])]⟩ []
def za5q:=EndD.mk (Par.q intP) ⟨[3],[]⟩ []
def zbbc:St→Option LR:=L1 18 3 0 zblq (.exit 0) za5q (u4 zl5)
def zs66a:=sub (fb Tryz.f122) [0,1,0,1,1]
theorem zblr:zk (zyN).env 0 zs66a zbbc :=
 zb5 (A:=zblp) zhN fM trivial (k:=z8 zs66a) (by kernel_rfl) rfl (by rintro ⟨x0,x1,x2,x3⟩;kernel_rfl)
def z5x (a0:(List Power)): Tr (Int) :=
 (.bind (zua 0 a0 ((a0.length:Nat):Int) 0) fun v1 =>
 (.leaf v1))
def zq0 (a0:(List Power)):=(z5x a0).run
def zac9:SpecT:=zn 0 (Par.q zf) 1 [] z5x default (Par.q intP) 1 []
theorem zakq:ze Tryz.prog 122 (zac9).spec :=
 sK (A:=⟨[([0,1,0,1,1],zbbc)],[],[],zv66,[]⟩) zhN fM Tryz.func122 (c:=(fb Tryz.f122)) (by kernel_rfl) (Lc:=0) ⟨zblr,trivial⟩ _ _ 3 _ _ _ _ _ _ [] (by rintro a0;kernel_rfl)
def zv67:List (List Nat):=[[1],[1,3],[3,8,9],[3,8,9,10],[3,4,5,8,9],[3,4,5,6,8,9],[3,4,6,8,9,22],[3,8,9],[3,8,9],[3],[3],[3],[2]]
noncomputable def zy67:EnvT:=⟨Tryz.prog,zw [(168,F_sort_SliceStable),(170,F_sort_Slice)]⟩
theorem zh67:(zy67).Ok:=zd ⟨z43,zahu,trivial⟩
def zl6 (x0:(A6 zi)) (x1:Int) (x2:(List Power)): Tr (((A6 zi)×Int×(List Power))⊕((List Power))) :=
 (.ite (decide (x1 < 6))
  (.guard ((0:Int)≤x1∧(x1:Int) < 6)
  (.guard ((100:Int)≠0)
  (.ite ((!(A6.get ⟨x0.x0.Jailed,x0.x1.Jailed,x0.x2.Jailed,x0.x3.Jailed,x0.x4.Jailed,x0.x5.Jailed⟩ x1))&&(decide ((i64.wrap (Int.tdiv (A6.get ⟨x0.x0.Tokens,x0.x1.Tokens,x0.x2.Tokens,x0.x3.Tokens,x0.x4.Tokens,x0.x5.Tokens⟩ x1) 100)) > 0)))
   (.guard ((Sl.len (.powers x2)+Sl.len (.powers [(⟨x1,i64.wrap (Int.tdiv (A6.get ⟨x0.x0.Tokens,x0.x1.Tokens,x0.x2.Tokens,x0.x3.Tokens,x0.x4.Tokens,x0.x5.Tokens⟩ x1) 100)⟩:Power)]))*16≤140737488355328)
   (.leaf (.inl (x0,i64.wrap (x1+1),x2++[(⟨x1,i64.wrap (Int.tdiv (A6.get ⟨x0.x0.Tokens,x0.x1.Tokens,x0.x2.Tokens,x0.x3.Tokens,x0.x4.Tokens,x0.x5.Tokens⟩ x1) 100)⟩:Power)]))))
   (.leaf (.inl (x0,i64.wrap (x1+1),x2))))))
  (.leaf (.inr x2)))
def zub (x0:(A6 zi)) (x1:Int) (x2:(List Power)):=zbl (fun s:(A6 zi)×Int×(List Power)=>(zl6 s.1 s.2.1 s.2.2).run) (x0,x1,x2)
def zbls:Ann:=⟨[],[],[],zv67,[]⟩
def zblt:=EndD.mk (LQ.kp 0 0 (LQ.seq (Par.q (Par.ofLP (a6L zfa))) (LQ.v intP (LQ.k (LQ.c (.own 1)) (Par.q zf))))) ⟨[3,8,9],[.nilcell 3 0 154 (.powers [])]⟩ [.cells 49 1,.rows 154]
def za5r:=EndD.mk (LQ.kp 0 0 (LQ.k (LQ.c (.own 1)) (Par.q zf))) ⟨[3],[.nilcell 3 0 154 (.powers [])]⟩ [.cells 49 1,.rows 154]
def zbbd:St→Option LR:=L1 44 7 0 zblt (.exit 0) za5r (u3 zl6)
def zs67a:=sub (fb Tryz.f125) [0,1,0,1,1]
theorem zblu:zk (zy67).env 0 zs67a zbbd :=
 zb5 (A:=zbls) zh67 fM trivial (k:=z8 zs67a) (by kernel_rfl) rfl (by rintro ⟨x0,x1,x2⟩;kernel_rfl)
def z5y (a0:Stake): Tr ((List Power)) :=
 (.bind (zub (⟨(⟨a0.Validators.Tokens.x0,a0.Validators.Shares.x0,a0.Validators.Lost.x0,a0.Validators.Jailed.x0,a0.Validators.Dead.x0⟩:zi),(⟨a0.Validators.Tokens.x1,a0.Validators.Shares.x1,a0.Validators.Lost.x1,a0.Validators.Jailed.x1,a0.Validators.Dead.x1⟩:zi),(⟨a0.Validators.Tokens.x2,a0.Validators.Shares.x2,a0.Validators.Lost.x2,a0.Validators.Jailed.x2,a0.Validators.Dead.x2⟩:zi),(⟨a0.Validators.Tokens.x3,a0.Validators.Shares.x3,a0.Validators.Lost.x3,a0.Validators.Jailed.x3,a0.Validators.Dead.x3⟩:zi),(⟨a0.Validators.Tokens.x4,a0.Validators.Shares.x4,a0.Validators.Lost.x4,a0.Validators.Jailed.x4,a0.Validators.Dead.x4⟩:zi),(⟨a0.Validators.Tokens.x5,a0.Validators.Shares.x5,a0.Validators.Lost.x5,a0.Validators.Jailed.x5,a0.Validators.Dead.x5⟩:zi)⟩:(A6 zi)) 0 []) fun v1 =>
 (.bind (ztt v1) fun v2 =>
 (.guard ((0:Int)≤(if 4 < ((v2.length:Nat):Int) then 4 else ((v2.length:Nat):Int))∧(if 4 < ((v2.length:Nat):Int) then 4 else ((v2.length:Nat):Int))≤((Sl.len (.powers v2):Nat):Int))
 (.bind (z6z ((v2.drop 0).take ((if 4 < ((v2.length:Nat):Int) then 4 else ((v2.length:Nat):Int)).toNat - 0))) fun v3 =>
 (.leaf v3)))))
def z2d (a0:Stake):=(z5y a0).run
def zada:SpecT:=zn 0 (Par.q (Par.ofLP stakeL)) 1 [] z5y default (Par.q zf) 1 []
theorem zakr:ze Tryz.prog 125 (zada).spec :=
 sK (A:=⟨[([0,1,0,1,1],zbbd)],[],[],zv67,[]⟩) zh67 fM Tryz.func125 (c:=(fb Tryz.f125)) (by kernel_rfl) (Lc:=0) ⟨zblu,trivial⟩ _ _ 7 _ _ _ _ _ _ [.pub 2] (by rintro a0;kernel_rfl)
end
