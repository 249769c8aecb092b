/-
  The functions, each by its tree.
-/
import Derived.Test.YtiacgjebngnddaaGreatXAbC
import Derived.Test.YtiacgjebngnddaaGreatXAbSort2
import Derived.Test.YtiacgjebngnddaaGreatXFBank
import Derived.Test.YtiacgjebngnddaaGreatXFRatio
import Derived.Test.YtiacgjebngnddaaGreatXFacts
namespace Go.Proofs.YtiacgjebngnddaaGreat.Ab
open Go Go.RowKit
open Go.IntKind (i64 u64)
set_option maxRecDepth 100000
set_option linter.unusedVariables false
set_option linter.unusedSimpArgs false
noncomputable section
def zv62:List (List Nat):=[[0,1],[1,7,8,9],[1,7,8,9,10],[1,6,7,8,9],[1,6,7,8,9,16],[4],[1,7,8,9],[4]]
def zf0 (x0:Int) (x1:(List Power)) (x2 x3:Int): Tr ((Int×(List Power)×Int×Int)⊕((Int)⊕(Unit))) :=
 (.ite (decide (x3 < x2))
  (.guard ((0:Int)≤x3∧x3 < ((Sl.len (.powers x1):Nat):Int))
  (.ite (((x1.getD x3.toNat default).V)==x0)
   (.leaf (.inr (.inl ((x1.getD x3.toNat default).N))))
   (.leaf (.inl (x0,x1,x2,i64.wrap (x3+1))))))
  (.leaf (.inr (.inr ()))))
def zq9 (x0:Int) (x1:(List Power)) (x2 x3:Int):=zd3 (fun s:Int×(List Power)×Int×Int=>(zf0 s.1 s.2.1 s.2.2.1 s.2.2.2).run) (x0,x1,x2,x3)
def zau1:Ann:=⟨[],[],[],zv62,[]⟩
def zau2:=EndD.mk (LQ.v intP (LQ.v zn (LQ.v intP (Par.q intP)))) ⟨[1,7,8,9],[.pub 7,.nilsl 7 (.powers [])]⟩ []
def zamg:=EndD.mk (Par.q intP) ⟨[4],[]⟩ []
def zamh:EndD (Unit):=⟨LQ.nil,⟨[],[]⟩,[]⟩
def zap5:St→Option LR:=L2 20 3 0 zau2 .ret zamg (.exit 0) zamh (u4 zf0)
def zs62a:=sub (fb Tryz.f117) [0,1,0,1]
theorem zau3:zt (zyN).env 0 zs62a zap5 :=
 zoc (A:=zau1) zhN fM trivial (k:=zch zs62a) (by kernel_rfl) rfl rfl (by rintro ⟨x0,x1,x2,x3⟩;kernel_rfl)
def zr9 (a0:(List Power)) (a1:Int): Tr (Int) :=
 (.two (zq9 a1 a0 ((a0.length:Nat):Int) 0) (fun v1 =>
  (.leaf v1)) (fun v2 =>
  (.leaf 0)))
def ziw (a0:(List Power)) (a1:Int):=(zr9 a0 a1).run
def zsa:SpecT:=zr 0 (LQ.v zn (Par.q intP)) 2 [] (u2 zr9) default (Par.q intP) 1 []
theorem zwi:zg Tryz.prog 117 (zsa).spec :=
 sK (A:=⟨[([0,1,0,1],zap5)],[],[],zv62,[]⟩) zhN fM Tryz.func117 (c:=(fb Tryz.f117)) (by kernel_rfl) (Lc:=0) ⟨zau3,trivial⟩ _ _ 3 _ _ _ _ _ _ [] (by rintro ⟨a0,a1⟩;kernel_rfl)
def zv63:List (List Nat):=[[0,1],[0,1,5],[0,1,5,8],[0,1,5,8,9],[0,1,5,6,8],[0,1,5,6,7,8],[0,1,5,6,7,8,18],[0,1,5,8],[0,1,5,8],[4]]
noncomputable def zy63:EnvT:=⟨Tryz.prog,zac [(117,zsa)]⟩
theorem zh63:(zy63).Ok:=zf ⟨zwi,trivial⟩
def zf1 (x0 x1:(List Power)) (x2:Int) (x3:(List Power)): Tr (((List Power)×(List Power)×Int×(List Power))⊕((List Power))) :=
 (.ite (decide (x2 < 6))
  (.bind (ziw x1 x2) fun v1 =>
  (.bind (ziw x0 x2) fun v2 =>
  (.ite (v1 != v2)
   (.guard ((Sl.len (.powers x3)+Sl.len (.powers [(⟨x2,v1⟩:Power)]))*16≤140737488355328)
   (.leaf (.inl (x0,x1,i64.wrap (x2+1),x3++[(⟨x2,v1⟩:Power)]))))
   (.leaf (.inl (x0,x1,i64.wrap (x2+1),x3))))))
  (.leaf (.inr x3)))
def zk6 (x0 x1:(List Power)) (x2:Int) (x3:(List Power)):=zd3 (fun s:(List Power)×(List Power)×Int×(List Power)=>(zf1 s.1 s.2.1 s.2.2.1 s.2.2.2).run) (x0,x1,x2,x3)
def zau4:Ann:=⟨[],[],[],zv63,[]⟩
def zau5:=EndD.mk (LQ.v zn (LQ.v zn (LQ.k (LQ.c (.own 0)) (LQ.v intP (Par.q zn))))) ⟨[0,1,5,8],[.pub 0,.nilsl 0 (.powers []),.pub 1,.nilsl 1 (.powers []),.nilown 5 83 (.powers [])]⟩ [.rows 83]
def zami:=EndD.mk (LQ.k (LQ.c (.own 0)) (Par.q zn)) ⟨[5],[.nilown 5 83 (.powers [])]⟩ [.rows 83]
def zap6:St→Option LR:=L1 27 5 0 zau5 (.exit 0) zami (u4 zf1)
def zs63a:=sub (fb Tryz.f112) [0,1,0,1,1]
theorem zau6:zt (zy63).env 0 zs63a zap6 :=
 zhm (A:=zau4) zh63 fM trivial (k:=zch zs63a) (by kernel_rfl) rfl (by rintro ⟨x0,x1,x2,x3⟩;kernel_rfl)
def zsb (a0 a1:(List Power)): Tr ((List Power)) :=
 (.bind (zk6 a0 a1 0 []) fun v3 =>
 (.leaf v3))
def zdp (a0 a1:(List Power)):=(zsb a0 a1).run
def zx9:SpecT:=zr 0 (LQ.v zn (Par.q zn)) 2 [] (u2 zsb) default (Par.q zn) 1 []
theorem z4s:zg Tryz.prog 112 (zx9).spec :=
 sK (A:=⟨[([0,1,0,1,1],zap6)],[],[],zv63,[]⟩) zh63 fM Tryz.func112 (c:=(fb Tryz.f112)) (by kernel_rfl) (Lc:=0) ⟨zau6,trivial⟩ _ _ 5 _ _ _ _ _ _ [.pub 4] (by rintro ⟨a0,a1⟩;kernel_rfl)
def zv64:List (List Nat):=[[0,1],[0,1,5],[0,1,5,10],[0,1,5,10,11],[0,1,5,6,10],[0,1,5,6,7,10],[0,1,5,6,7,10,16,17,18],[0,1,5,6,7,10,16,17,18,19],[0,1,5,6,7,9,10,16,17,18],[0,1,5,6,7,9,10,16,17,18,25],[0,1,5,6,7,10,16,17,18],[0,1,5,6,7,10,16,17,18],[0,1,5,6,7,10,30],[0,1,5,10],[0,1,5,10],[4]]
noncomputable def zy64:EnvT:=⟨Tryz.prog,zac [(117,zsa)]⟩
theorem zh64:(zy64).Ok:=zf ⟨zwi,trivial⟩
def ze9 (x0 x1:(List Power)) (x2 x3 x4:Int) (x5:(List Power)) (x6 x7:Int) (x8:(List Power)): Tr (((List Power)×(List Power)×Int×Int×Int×(List Power)×Int×Int×(List Power))⊕((List Power)×(List Power)×Int×Int×Int×(List Power))) :=
 (.ite (decide (x7 < x6))
  (.guard ((0:Int)≤x7∧x7 < ((Sl.len (.powers x5):Nat):Int))
  (.ite (((x5.getD x7.toNat default).V)==x2)
   (.leaf (.inl (x0,x1,x2,(x5.getD x7.toNat default).N,x4,x5,x6,i64.wrap (x7+1),x8)))
   (.leaf (.inl (x0,x1,x2,x3,x4,x5,x6,i64.wrap (x7+1),x8)))))
  (.leaf (.inr (x0,x1,x2,x3,x4,x8))))
def zjp (x0 x1:(List Power)) (x2 x3 x4:Int) (x5:(List Power)) (x6 x7:Int) (x8:(List Power)):=zd3 (fun s:(List Power)×(List Power)×Int×Int×Int×(List Power)×Int×Int×(List Power)=>(ze9 s.1 s.2.1 s.2.2.1 s.2.2.2.1 s.2.2.2.2.1 s.2.2.2.2.2.1 s.2.2.2.2.2.2.1 s.2.2.2.2.2.2.2.1 s.2.2.2.2.2.2.2.2).run) (x0,x1,x2,x3,x4,x5,x6,x7,x8)
def zava:Ann:=⟨[],[],[],zv64,[]⟩
def zavb:=EndD.mk (LQ.v zn (LQ.v zn (LQ.k (LQ.c (.own 0)) (LQ.v intP (LQ.v intP (LQ.v intP (LQ.v zn (LQ.v intP (LQ.v intP (Par.q zn)))))))))) ⟨[0,1,5,6,7,10,16,17,18],[.pub 0,.nilsl 0 (.powers []),.pub 1,.nilsl 1 (.powers []),.nilown 5 83 (.powers []),.pub 16,.nilsl 16 (.powers [])]⟩ [.rows 83]
def zamj:=EndD.mk (LQ.v zn (LQ.v zn (LQ.k (LQ.c (.own 0)) (LQ.v intP (LQ.v intP (LQ.v intP (Par.q zn))))))) ⟨[0,1,5,6,7,10],[.pub 0,.nilsl 0 (.powers []),.pub 1,.nilsl 1 (.powers []),.nilown 5 83 (.powers [])]⟩ [.rows 83]
def zap7:St→Option LR:=L1 39 5 0 zavb (.exit 2) zamj (u9 ze9)
def zs64a:=sub (fb Tryz.f76) [0,1,0,1,1,0,0,1,1,0,0,1,0,1,1]
theorem zavc:zt (zy64).env 0 zs64a zap7 :=
 zhm (A:=zava) zh64 fM trivial (k:=zch zs64a) (by kernel_rfl) rfl (by rintro ⟨x0,x1,x2,x3,x4,x5,x6,x7,x8⟩;kernel_rfl)
def zfa (x0 x1:(List Power)) (x2:Int) (x3:(List Power)): Tr (((List Power)×(List Power)×Int×(List Power))⊕((List Power))) :=
 (.ite (decide (x2 < 6))
  (.bind (ziw x0 x2) fun v1 =>
  (.bind (zjp x0 x1 x2 v1 x2 x1 ((x1.length:Nat):Int) 0 x3) fun v2 =>
  (.ite (decide (v2.2.2.2.1 > 0))
   (.guard ((Sl.len (.powers v2.2.2.2.2.2)+Sl.len (.powers [(⟨v2.2.2.1,v2.2.2.2.1⟩:Power)]))*16≤140737488355328)
   (.leaf (.inl (v2.1,v2.2.1,i64.wrap (v2.2.2.2.2.1+1),v2.2.2.2.2.2++[(⟨v2.2.2.1,v2.2.2.2.1⟩:Power)]))))
   (.leaf (.inl (v2.1,v2.2.1,i64.wrap (v2.2.2.2.2.1+1),v2.2.2.2.2.2))))))
  (.leaf (.inr x3)))
def zjq (x0 x1:(List Power)) (x2:Int) (x3:(List Power)):=zd3 (fun s:(List Power)×(List Power)×Int×(List Power)=>(zfa s.1 s.2.1 s.2.2.1 s.2.2.2).run) (x0,x1,x2,x3)
def zavd:Ann:=⟨[([0,1,0,1,1,0,0,1,1,0,0,1,0,1,1],zap7)],[],[],zv64,[]⟩
def zave:=EndD.mk (LQ.v zn (LQ.v zn (LQ.k (LQ.c (.own 0)) (LQ.v intP (Par.q zn))))) ⟨[0,1,5,10],[.pub 0,.nilsl 0 (.powers []),.pub 1,.nilsl 1 (.powers []),.nilown 5 83 (.powers [])]⟩ [.rows 83]
def zamk:=EndD.mk (LQ.k (LQ.c (.own 0)) (Par.q zn)) ⟨[5],[.nilown 5 83 (.powers [])]⟩ [.rows 83]
def zap8:St→Option LR:=L1 39 5 0 zave (.exit 0) zamk (u4 zfa)
def zs64b:=sub (fb Tryz.f76) [0,1,0,1,1]
theorem zavf:zt (zy64).env 0 zs64b zap8 :=
 zhm (A:=zavd) zh64 fM ⟨zavc,trivial⟩ (k:=zch zs64b) (by kernel_rfl) rfl (by rintro ⟨x0,x1,x2,x3⟩;kernel_rfl)
def zqr (a0 a1:(List Power)): Tr ((List Power)) :=
 (.bind (zjq a0 a1 0 []) fun v3 =>
 (.leaf v3))
def zot (a0 a1:(List Power)):=(zqr a0 a1).run
def zwj:SpecT:=zr 0 (LQ.v zn (Par.q zn)) 2 [] (u2 zqr) default (Par.q zn) 1 []
theorem z2a:zg Tryz.prog 76 (zwj).spec :=
 sK (A:=⟨[([0,1,0,1,1],zap8)],[],[],zv64,[]⟩) zh64 fM Tryz.func76 (c:=(fb Tryz.f76)) (by kernel_rfl) (Lc:=0) ⟨zavf,trivial⟩ _ _ 5 _ _ _ _ _ _ [.pub 4] (by rintro ⟨a0,a1⟩;kernel_rfl)
def zv65:List (List Nat):=[[0],[0,3],[3,6,7,8],[3,6,7,8,9],[3,5,6,7,8],[3,6,7,8],[3,6,7,8],[2]]
def zg7 (x0:Int) (x1:(List Power)) (x2 x3:Int): Tr ((Int×(List Power)×Int×Int)⊕(Int)) :=
 (.ite (decide (x3 < x2))
  (.guard ((0:Int)≤x3∧x3 < ((Sl.len (.powers x1):Nat):Int))
  (.leaf (.inl (i64.wrap (x0+((x1.getD x3.toNat default).N)),x1,x2,i64.wrap (x3+1)))))
  (.leaf (.inr x0)))
def zmr (x0:Int) (x1:(List Power)) (x2 x3:Int):=zd3 (fun s:Int×(List Power)×Int×Int=>(zg7 s.1 s.2.1 s.2.2.1 s.2.2.2).run) (x0,x1,x2,x3)
def zavg:Ann:=⟨[],[],[],zv65,[]⟩
def zavh:=EndD.mk (LQ.v intP (LQ.v zn (LQ.v intP (Par.q intP)))) ⟨[3,6,7,8],[.pub 6,.nilsl 6 (.powers [])]⟩ []
def zaml:=EndD.mk (Par.q intP) ⟨[3],[]⟩ []
def zap9:St→Option LR:=L1 18 3 0 zavh (.exit 0) zaml (u4 zg7)
def zs65a:=sub (fb Tryz.f68) [0,1,0,1,1]
theorem zavi:zt (zyN).env 0 zs65a zap9 :=
 zhm (A:=zavg) zhN fM trivial (k:=zch zs65a) (by kernel_rfl) rfl (by rintro ⟨x0,x1,x2,x3⟩;kernel_rfl)
def zu3 (a0:(List Power)): Tr (Int) :=
 (.bind (zmr 0 a0 ((a0.length:Nat):Int) 0) fun v1 =>
 (.leaf v1))
def zko (a0:(List Power)):=(zu3 a0).run
def z0f:SpecT:=zr 0 (Par.q zn) 1 [] zu3 default (Par.q intP) 1 []
theorem z6u:zg Tryz.prog 68 (z0f).spec :=
 sK (A:=⟨[([0,1,0,1,1],zap9)],[],[],zv65,[]⟩) zhN fM Tryz.func68 (c:=(fb Tryz.f68)) (by kernel_rfl) (Lc:=0) ⟨zavi,trivial⟩ _ _ 3 _ _ _ _ _ _ [] (by rintro a0;kernel_rfl)
def zv66:List (List Nat):=[[1],[1,3],[3,8,9],[3,8,9,10],[3,4,5,8,9],[3,4,5,6,8,9],[3,4,6,8,9,22],[3,8,9],[3,8,9],[3],[3],[3],[2]]
noncomputable def zy66:EnvT:=⟨Tryz.prog,zac [(108,F_sort_SliceStable),(110,F_sort_Slice)]⟩
theorem zh66:(zy66).Ok:=zf ⟨zuj,z37,trivial⟩
def zg8 (x0:(A6 zo)) (x1:Int) (x2:(List Power)): Tr (((A6 zo)×Int×(List Power))⊕((List Power))) :=
 (.ite (decide (x1 < 6))
  (.guard ((0:Int)≤x1∧(x1:Int) < 6)
  (.guard ((100:Int)≠0)
  (.ite ((!(A6.get ⟨x0.x0.Jailed,x0.x1.Jailed,x0.x2.Jailed,x0.x3.Jailed,x0.x4.Jailed,x0.x5.Jailed⟩ x1))&&(decide ((i64.wrap (Int.tdiv (A6.get ⟨x0.x0.Tokens,x0.x1.Tokens,x0.x2.Tokens,x0.x3.Tokens,x0.x4.Tokens,x0.x5.Tokens⟩ x1) 100)) > 0)))
   (.guard ((Sl.len (.powers x2)+Sl.len (.powers [(⟨x1,i64.wrap (Int.tdiv (A6.get ⟨x0.x0.Tokens,x0.x1.Tokens,x0.x2.Tokens,x0.x3.Tokens,x0.x4.Tokens,x0.x5.Tokens⟩ x1) 100)⟩:Power)]))*16≤140737488355328)
   (.leaf (.inl (x0,i64.wrap (x1+1),x2++[(⟨x1,i64.wrap (Int.tdiv (A6.get ⟨x0.x0.Tokens,x0.x1.Tokens,x0.x2.Tokens,x0.x3.Tokens,x0.x4.Tokens,x0.x5.Tokens⟩ x1) 100)⟩:Power)]))))
   (.leaf (.inl (x0,i64.wrap (x1+1),x2))))))
  (.leaf (.inr x2)))
def zms (x0:(A6 zo)) (x1:Int) (x2:(List Power)):=zd3 (fun s:(A6 zo)×Int×(List Power)=>(zg8 s.1 s.2.1 s.2.2).run) (x0,x1,x2)
def zavj:Ann:=⟨[],[],[],zv66,[]⟩
def zavk:=EndD.mk (LQ.kp 0 0 (LQ.seq (Par.q (Par.ofLP (a6L zjf))) (LQ.v intP (LQ.k (LQ.c (.own 1)) (Par.q zn))))) ⟨[3,8,9],[.nilcell 3 0 83 (.powers [])]⟩ [.cells 44 1,.rows 83]
def zamm:=EndD.mk (LQ.kp 0 0 (LQ.k (LQ.c (.own 1)) (Par.q zn))) ⟨[3],[.nilcell 3 0 83 (.powers [])]⟩ [.cells 44 1,.rows 83]
def zaqa:St→Option LR:=L1 44 7 0 zavk (.exit 0) zamm (u3 zg8)
def zs66a:=sub (fb Tryz.f71) [0,1,0,1,1]
theorem zavl:zt (zy66).env 0 zs66a zaqa :=
 zhm (A:=zavj) zh66 fM trivial (k:=zch zs66a) (by kernel_rfl) rfl (by rintro ⟨x0,x1,x2⟩;kernel_rfl)
def zu4 (a0:Stake): Tr ((List Power)) :=
 (.bind (zms (⟨(⟨a0.Validators.Tokens.x0,a0.Validators.Shares.x0,a0.Validators.Lost.x0,a0.Validators.Jailed.x0,a0.Validators.Dead.x0⟩:zo),(⟨a0.Validators.Tokens.x1,a0.Validators.Shares.x1,a0.Validators.Lost.x1,a0.Validators.Jailed.x1,a0.Validators.Dead.x1⟩:zo),(⟨a0.Validators.Tokens.x2,a0.Validators.Shares.x2,a0.Validators.Lost.x2,a0.Validators.Jailed.x2,a0.Validators.Dead.x2⟩:zo),(⟨a0.Validators.Tokens.x3,a0.Validators.Shares.x3,a0.Validators.Lost.x3,a0.Validators.Jailed.x3,a0.Validators.Dead.x3⟩:zo),(⟨a0.Validators.Tokens.x4,a0.Validators.Shares.x4,a0.Validators.Lost.x4,a0.Validators.Jailed.x4,a0.Validators.Dead.x4⟩:zo),(⟨a0.Validators.Tokens.x5,a0.Validators.Shares.x5,a0.Validators.Lost.x5,a0.Validators.Jailed.x5,a0.Validators.Dead.x5⟩:zo)⟩:(A6 zo)) 0 []) fun v1 =>
 (.bind (zmd v1) fun v2 =>
 (.guard ((0:Int)≤(if 4 < ((v2.length:Nat):Int) then 4 else ((v2.length:Nat):Int))∧(if 4 < ((v2.length:Nat):Int) then 4 else ((v2.length:Nat):Int))≤((Sl.len (.powers v2):Nat):Int))
 (.bind (zvr ((v2.drop 0).take ((if 4 < ((v2.length:Nat):Int) then 4 else ((v2.length:Nat):Int)).toNat - 0))) fun v3 =>
 (.leaf v3)))))
def zsc (a0:Stake):=(zu4 a0).run
def z0g:SpecT:=zr 0 (Par.q (Par.ofLP stakeL)) 1 [] zu4 default (Par.q zn) 1 []
theorem z6v:zg Tryz.prog 71 (z0g).spec :=
 sK (A:=⟨[([0,1,0,1,1],zaqa)],[],[],zv66,[]⟩) zh66 fM Tryz.func71 (c:=(fb Tryz.f71)) (by kernel_rfl) (Lc:=0) ⟨zavl,trivial⟩ _ _ 7 _ _ _ _ _ _ [.pub 2] (by rintro a0;kernel_rfl)
end
