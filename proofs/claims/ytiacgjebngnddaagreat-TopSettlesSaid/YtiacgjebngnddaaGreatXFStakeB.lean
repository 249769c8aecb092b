/-
  The functions, each by its tree.
-/
import Derived.Test.YtiacgjebngnddaaGreatXAbC
import Derived.Test.YtiacgjebngnddaaGreatXAbSort2
import Derived.Test.YtiacgjebngnddaaGreatXFBank
import Derived.Test.YtiacgjebngnddaaGreatXFRatio
import Derived.Test.YtiacgjebngnddaaGreatXFacts
namespace Go.Proofs.YtiacgjebngnddaaGreat.Ab
open Go Go.RowKit
open Go.IntKind (i64 u64)
set_option maxRecDepth 100000
set_option linter.unusedVariables false
set_option linter.unusedSimpArgs false
noncomputable section
def zv62:List (List Nat):=[[0,1],[1,7,8,9],[1,7,8,9,10],[1,6,7,8,9],[1,6,7,8,9,16],[4],[1,7,8,9],[4]]
def zgl (x0:Int) (x1:(List Power)) (x2 x3:Int): Tr ((Int×(List Power)×Int×Int)⊕((Int)⊕(Unit))) :=
 (.ite (decide (x3 < x2))
  (.guard ((0:Int)≤x3∧x3 < ((Sl.len (.powers x1):Nat):Int))
  (.ite (((x1.getD x3.toNat default).V)==x0)
   (.leaf (.inr (.inl ((x1.getD x3.toNat default).N))))
   (.leaf (.inl (x0,x1,x2,i64.wrap (x3+1))))))
  (.leaf (.inr (.inr ()))))
def zsj (x0:Int) (x1:(List Power)) (x2 x3:Int):=zdm (fun s:Int×(List Power)×Int×Int=>(zgl s.1 s.2.1 s.2.2.1 s.2.2.2).run) (x0,x1,x2,x3)
def zazh:Ann:=⟨[],[],[],zv62,[]⟩
def zazi:=EndD.mk (LQ.v intP (LQ.v zp (LQ.v intP (Par.q intP)))) ⟨[1,7,8,9],[.pub 7,.nilsl 7 (.powers [])]⟩ []
def zaqq:=EndD.mk (Par.q intP) ⟨[4],[]⟩ []
def zaqr:EndD (Unit):=⟨LQ.nil,⟨[],[]⟩,[]⟩
def zaui:St→Option LR:=L2 20 3 0 zazi .ret zaqq (.exit 0) zaqr (u4 zgl)
def zs62a:=sub (fb Tryz.f117) [0,1,0,1]
theorem zazj:zt (zyN).env 0 zs62a zaui :=
 znl (A:=zazh) zhN fM trivial (k:=zcd zs62a) (by kernel_rfl) rfl rfl (by rintro ⟨x0,x1,x2,x3⟩;kernel_rfl)
def ztm (a0:(List Power)) (a1:Int): Tr (Int) :=
 (.two (zsj a1 a0 ((a0.length:Nat):Int) 0) (fun v1 =>
  (.leaf v1)) (fun v2 =>
  (.leaf 0)))
def zjx (a0:(List Power)) (a1:Int):=(ztm a0 a1).run
def ztn:SpecT:=zw 0 (LQ.v zp (Par.q intP)) 2 [] (u2 ztm) default (Par.q intP) 1 []
theorem zxy:zg Tryz.prog 117 (ztn).spec :=
 sK (A:=⟨[([0,1,0,1],zaui)],[],[],zv62,[]⟩) zhN fM Tryz.func117 (c:=(fb Tryz.f117)) (by kernel_rfl) (Lc:=0) ⟨zazj,trivial⟩ _ _ 3 _ _ _ _ _ _ [] (by rintro ⟨a0,a1⟩;kernel_rfl)
def zv63:List (List Nat):=[[0,1],[0,1,5],[0,1,5,8],[0,1,5,8,9],[0,1,5,6,8],[0,1,5,6,7,8],[0,1,5,6,7,8,18],[0,1,5,8],[0,1,5,8],[4]]
noncomputable def zy63:EnvT:=⟨Tryz.prog,zah [(117,ztn)]⟩
theorem zh63:(zy63).Ok:=zf ⟨zxy,trivial⟩
def zgm (x0 x1:(List Power)) (x2:Int) (x3:(List Power)): Tr (((List Power)×(List Power)×Int×(List Power))⊕((List Power))) :=
 (.ite (decide (x2 < 6))
  (.bind (zjx x1 x2) fun v1 =>
  (.bind (zjx x0 x2) fun v2 =>
  (.ite (v1 != v2)
   (.guard ((Sl.len (.powers x3)+Sl.len (.powers [(⟨x2,v1⟩:Power)]))*16≤140737488355328)
   (.leaf (.inl (x0,x1,i64.wrap (x2+1),x3++[(⟨x2,v1⟩:Power)]))))
   (.leaf (.inl (x0,x1,i64.wrap (x2+1),x3))))))
  (.leaf (.inr x3)))
def zl8 (x0 x1:(List Power)) (x2:Int) (x3:(List Power)):=zdm (fun s:(List Power)×(List Power)×Int×(List Power)=>(zgm s.1 s.2.1 s.2.2.1 s.2.2.2).run) (x0,x1,x2,x3)
def zazk:Ann:=⟨[],[],[],zv63,[]⟩
def zazl:=EndD.mk (LQ.v zp (LQ.v zp (LQ.k (LQ.c (.own 0)) (LQ.v intP (Par.q zp))))) ⟨[0,1,5,8],[.pub 0,.nilsl 0 (.powers []),.pub 1,.nilsl 1 (.powers []),.nilown 5 83 (.powers [])]⟩ [.rows 83]
def zaqs:=EndD.mk (LQ.k (LQ.c (.own 0)) (Par.q zp)) ⟨[5],[.nilown 5 83 (.powers [])]⟩ [.rows 83]
def zauj:St→Option LR:=L1 27 5 0 zazl (.exit 0) zaqs (u4 zgm)
def zs63a:=sub (fb Tryz.f112) [0,1,0,1,1]
theorem zazm:zt (zy63).env 0 zs63a zauj :=
 zht (A:=zazk) zh63 fM trivial (k:=zcd zs63a) (by kernel_rfl) rfl (by rintro ⟨x0,x1,x2,x3⟩;kernel_rfl)
def zto (a0 a1:(List Power)): Tr ((List Power)) :=
 (.bind (zl8 a0 a1 0 []) fun v3 =>
 (.leaf v3))
def zd1 (a0 a1:(List Power)):=(zto a0 a1).run
def zz0:SpecT:=zw 0 (LQ.v zp (Par.q zp)) 2 [] (u2 zto) default (Par.q zp) 1 []
theorem z62:zg Tryz.prog 112 (zz0).spec :=
 sK (A:=⟨[([0,1,0,1,1],zauj)],[],[],zv63,[]⟩) zh63 fM Tryz.func112 (c:=(fb Tryz.f112)) (by kernel_rfl) (Lc:=0) ⟨zazm,trivial⟩ _ _ 5 _ _ _ _ _ _ [.pub 4] (by rintro ⟨a0,a1⟩;kernel_rfl)
def zv64:List (List Nat):=[[0,1],[0,1,5],[0,1,5,10],[0,1,5,10,11],[0,1,5,6,10],[0,1,5,6,7,10],[0,1,5,6,7,10,16,17,18],[0,1,5,6,7,10,16,17,18,19],[0,1,5,6,7,9,10,16,17,18],[0,1,5,6,7,9,10,16,17,18,25],[0,1,5,6,7,10,16,17,18],[0,1,5,6,7,10,16,17,18],[0,1,5,6,7,10,30],[0,1,5,10],[0,1,5,10],[4]]
noncomputable def zy64:EnvT:=⟨Tryz.prog,zah [(117,ztn)]⟩
theorem zh64:(zy64).Ok:=zf ⟨zxy,trivial⟩
def zfr (x0 x1:(List Power)) (x2 x3 x4:Int) (x5:(List Power)) (x6 x7:Int) (x8:(List Power)): Tr (((List Power)×(List Power)×Int×Int×Int×(List Power)×Int×Int×(List Power))⊕((List Power)×(List Power)×Int×Int×Int×(List Power))) :=
 (.ite (decide (x7 < x6))
  (.guard ((0:Int)≤x7∧x7 < ((Sl.len (.powers x5):Nat):Int))
  (.ite (((x5.getD x7.toNat default).V)==x2)
   (.leaf (.inl (x0,x1,x2,(x5.getD x7.toNat default).N,x4,x5,x6,i64.wrap (x7+1),x8)))
   (.leaf (.inl (x0,x1,x2,x3,x4,x5,x6,i64.wrap (x7+1),x8)))))
  (.leaf (.inr (x0,x1,x2,x3,x4,x8))))
def zkr (x0 x1:(List Power)) (x2 x3 x4:Int) (x5:(List Power)) (x6 x7:Int) (x8:(List Power)):=zdm (fun s:(List Power)×(List Power)×Int×Int×Int×(List Power)×Int×Int×(List Power)=>(zfr s.1 s.2.1 s.2.2.1 s.2.2.2.1 s.2.2.2.2.1 s.2.2.2.2.2.1 s.2.2.2.2.2.2.1 s.2.2.2.2.2.2.2.1 s.2.2.2.2.2.2.2.2).run) (x0,x1,x2,x3,x4,x5,x6,x7,x8)
def zazq:Ann:=⟨[],[],[],zv64,[]⟩
def zazr:=EndD.mk (LQ.v zp (LQ.v zp (LQ.k (LQ.c (.own 0)) (LQ.v intP (LQ.v intP (LQ.v intP (LQ.v zp (LQ.v intP (LQ.v intP (Par.q zp)))))))))) ⟨[0,1,5,6,7,10,16,17,18],[.pub 0,.nilsl 0 (.powers []),.pub 1,.nilsl 1 (.powers []),.nilown 5 83 (.powers []),.pub 16,.nilsl 16 (.powers [])]⟩ [.rows 83]
def zaqt:=EndD.mk (LQ.v zp (LQ.v zp (LQ.k (LQ.c (.own 0)) (LQ.v intP (LQ.v intP (LQ.v intP (Par.q zp))))))) ⟨[0,1,5,6,7,10],[.pub 0,.nilsl 0 (.powers []),.pub 1,.nilsl 1 (.powers []),.nilown 5 83 (.powers [])]⟩ [.rows 83]
def zauk:St→Option LR:=L1 39 5 0 zazr (.exit 2) zaqt (u9 zfr)
def zs64a:=sub (fb Tryz.f76) [0,1,0,1,1,0,0,1,1,0,0,1,0,1,1]
theorem zazs:zt (zy64).env 0 zs64a zauk :=
 zht (A:=zazq) zh64 fM trivial (k:=zcd zs64a) (by kernel_rfl) rfl (by rintro ⟨x0,x1,x2,x3,x4,x5,x6,x7,x8⟩;kernel_rfl)
def zfs (x0 x1:(List Power)) (x2:Int) (x3:(List Power)): Tr (((List Power)×(List Power)×Int×(List Power))⊕((List Power))) :=
 (.ite (decide (x2 < 6))
  (.bind (zjx x0 x2) fun v1 =>
  (.bind (zkr x0 x1 x2 v1 x2 x1 ((x1.length:Nat):Int) 0 x3) fun v2 =>
  (.ite (decide (v2.2.2.2.1 > 0))
   (.guard ((Sl.len (.powers v2.2.2.2.2.2)+Sl.len (.powers [(⟨v2.2.2.1,v2.2.2.2.1⟩:Power)]))*16≤140737488355328)
   (.leaf (.inl (v2.1,v2.2.1,i64.wrap (v2.2.2.2.2.1+1),v2.2.2.2.2.2++[(⟨v2.2.2.1,v2.2.2.2.1⟩:Power)]))))
   (.leaf (.inl (v2.1,v2.2.1,i64.wrap (v2.2.2.2.2.1+1),v2.2.2.2.2.2))))))
  (.leaf (.inr x3)))
def zks (x0 x1:(List Power)) (x2:Int) (x3:(List Power)):=zdm (fun s:(List Power)×(List Power)×Int×(List Power)=>(zfs s.1 s.2.1 s.2.2.1 s.2.2.2).run) (x0,x1,x2,x3)
def zazt:Ann:=⟨[([0,1,0,1,1,0,0,1,1,0,0,1,0,1,1],zauk)],[],[],zv64,[]⟩
def zazu:=EndD.mk (LQ.v zp (LQ.v zp (LQ.k (LQ.c (.own 0)) (LQ.v intP (Par.q zp))))) ⟨[0,1,5,10],[.pub 0,.nilsl 0 (.powers []),.pub 1,.nilsl 1 (.powers []),.nilown 5 83 (.powers [])]⟩ [.rows 83]
def zaqu:=EndD.mk (LQ.k (LQ.c (.own 0)) (Par.q zp)) ⟨[5],[.nilown 5 83 (.powers [])]⟩ [.rows 83]
def zaul:St→Option LR:=L1 39 5 0 zazu (.exit 0) zaqu (u4 zfs)
def zs64b:=sub (fb Tryz.f76) [0,1,0,1,1]
theorem zazv:zt (zy64).env 0 zs64b zaul :=
 zht (A:=zazt) zh64 fM ⟨zazs,trivial⟩ (k:=zcd zs64b) (by kernel_rfl) rfl (by rintro ⟨x0,x1,x2,x3⟩;kernel_rfl)
def zrz (a0 a1:(List Power)): Tr ((List Power)) :=
 (.bind (zks a0 a1 0 []) fun v3 =>
 (.leaf v3))
def zpy (a0 a1:(List Power)):=(zrz a0 a1).run
def zxz:SpecT:=zw 0 (LQ.v zp (Par.q zp)) 2 [] (u2 zrz) default (Par.q zp) 1 []
theorem z37:zg Tryz.prog 76 (zxz).spec :=
 sK (A:=⟨[([0,1,0,1,1],zaul)],[],[],zv64,[]⟩) zh64 fM Tryz.func76 (c:=(fb Tryz.f76)) (by kernel_rfl) (Lc:=0) ⟨zazv,trivial⟩ _ _ 5 _ _ _ _ _ _ [.pub 4] (by rintro ⟨a0,a1⟩;kernel_rfl)
def zv65:List (List Nat):=[[0],[0,3],[3,6,7,8],[3,6,7,8,9],[3,5,6,7,8],[3,6,7,8],[3,6,7,8],[2]]
def zh7 (x0:Int) (x1:(List Power)) (x2 x3:Int): Tr ((Int×(List Power)×Int×Int)⊕(Int)) :=
 (.ite (decide (x3 < x2))
  (.guard ((0:Int)≤x3∧x3 < ((Sl.len (.powers x1):Nat):Int))
  (.leaf (.inl (i64.wrap (x0+((x1.getD x3.toNat default).N)),x1,x2,i64.wrap (x3+1)))))
  (.leaf (.inr x0)))
def zn0 (x0:Int) (x1:(List Power)) (x2 x3:Int):=zdm (fun s:Int×(List Power)×Int×Int=>(zh7 s.1 s.2.1 s.2.2.1 s.2.2.2).run) (x0,x1,x2,x3)
def zazw:Ann:=⟨[],[],[],zv65,[]⟩
def zazx:=EndD.mk (LQ.v intP (LQ.v zp (LQ.v intP (Par.q intP)))) ⟨[3,6,7,8],[.pub 6,.nilsl 6 (.powers [])]⟩ []
def zaqv:=EndD.mk (Par.q intP) ⟨[3],[]⟩ []
def zaum:St→Option LR:=L1 18 3 0 zazx (.exit 0) zaqv (u4 zh7)
def zs65a:=sub (fb Tryz.f68) [0,1,0,1,1]
theorem zazy:zt (zyN).env 0 zs65a zaum :=
 zht (A:=zazw) zhN fM trivial (k:=zcd zs65a) (by kernel_rfl) rfl (by rintro ⟨x0,x1,x2,x3⟩;kernel_rfl)
def zwk (a0:(List Power)): Tr (Int) :=
 (.bind (zn0 0 a0 ((a0.length:Nat):Int) 0) fun v1 =>
 (.leaf v1))
def zlq (a0:(List Power)):=(zwk a0).run
def z15:SpecT:=zw 0 (Par.q zp) 1 [] zwk default (Par.q intP) 1 []
theorem z80:zg Tryz.prog 68 (z15).spec :=
 sK (A:=⟨[([0,1,0,1,1],zaum)],[],[],zv65,[]⟩) zhN fM Tryz.func68 (c:=(fb Tryz.f68)) (by kernel_rfl) (Lc:=0) ⟨zazy,trivial⟩ _ _ 3 _ _ _ _ _ _ [] (by rintro a0;kernel_rfl)
def zv66:List (List Nat):=[[1],[1,3],[3,8,9],[3,8,9,10],[3,4,5,8,9],[3,4,5,6,8,9],[3,4,6,8,9,22],[3,8,9],[3,8,9],[3],[3],[3],[2]]
noncomputable def zy66:EnvT:=⟨Tryz.prog,zah [(108,F_sort_SliceStable),(110,F_sort_Slice)]⟩
theorem zh66:(zy66).Ok:=zf ⟨zvw,z6i,trivial⟩
def zh8 (x0:(A6 zq)) (x1:Int) (x2:(List Power)): Tr (((A6 zq)×Int×(List Power))⊕((List Power))) :=
 (.ite (decide (x1 < 6))
  (.guard ((0:Int)≤x1∧(x1:Int) < 6)
  (.guard ((100:Int)≠0)
  (.ite ((!(A6.get ⟨x0.x0.Jailed,x0.x1.Jailed,x0.x2.Jailed,x0.x3.Jailed,x0.x4.Jailed,x0.x5.Jailed⟩ x1))&&(decide ((i64.wrap (Int.tdiv (A6.get ⟨x0.x0.Tokens,x0.x1.Tokens,x0.x2.Tokens,x0.x3.Tokens,x0.x4.Tokens,x0.x5.Tokens⟩ x1) 100)) > 0)))
   (.guard ((Sl.len (.powers x2)+Sl.len (.powers [(⟨x1,i64.wrap (Int.tdiv (A6.get ⟨x0.x0.Tokens,x0.x1.Tokens,x0.x2.Tokens,x0.x3.Tokens,x0.x4.Tokens,x0.x5.Tokens⟩ x1) 100)⟩:Power)]))*16≤140737488355328)
   (.leaf (.inl (x0,i64.wrap (x1+1),x2++[(⟨x1,i64.wrap (Int.tdiv (A6.get ⟨x0.x0.Tokens,x0.x1.Tokens,x0.x2.Tokens,x0.x3.Tokens,x0.x4.Tokens,x0.x5.Tokens⟩ x1) 100)⟩:Power)]))))
   (.leaf (.inl (x0,i64.wrap (x1+1),x2))))))
  (.leaf (.inr x2)))
def zn1 (x0:(A6 zq)) (x1:Int) (x2:(List Power)):=zdm (fun s:(A6 zq)×Int×(List Power)=>(zh8 s.1 s.2.1 s.2.2).run) (x0,x1,x2)
def zazz:Ann:=⟨[],[],[],zv66,[]⟩
def zaz0:=EndD.mk (LQ.kp 0 0 (LQ.seq (Par.q (Par.ofLP (a6L zkh))) (LQ.v intP (LQ.k (LQ.c (.own 1)) (Par.q zp))))) ⟨[3,8,9],[.nilcell 3 0 83 (.powers [])]⟩ [.cells 44 1,.rows 83]
def zaqw:=EndD.mk (LQ.kp 0 0 (LQ.k (LQ.c (.own 1)) (Par.q zp))) ⟨[3],[.nilcell 3 0 83 (.powers [])]⟩ [.cells 44 1,.rows 83]
def zaun:St→Option LR:=L1 44 7 0 zaz0 (.exit 0) zaqw (u3 zh8)
def zs66a:=sub (fb Tryz.f71) [0,1,0,1,1]
theorem zaz1:zt (zy66).env 0 zs66a zaun :=
 zht (A:=zazz) zh66 fM trivial (k:=zcd zs66a) (by kernel_rfl) rfl (by rintro ⟨x0,x1,x2⟩;kernel_rfl)
def zwl (a0:Stake): Tr ((List Power)) :=
 (.bind (zn1 (⟨(⟨a0.Validators.Tokens.x0,a0.Validators.Shares.x0,a0.Validators.Lost.x0,a0.Validators.Jailed.x0,a0.Validators.Dead.x0⟩:zq),(⟨a0.Validators.Tokens.x1,a0.Validators.Shares.x1,a0.Validators.Lost.x1,a0.Validators.Jailed.x1,a0.Validators.Dead.x1⟩:zq),(⟨a0.Validators.Tokens.x2,a0.Validators.Shares.x2,a0.Validators.Lost.x2,a0.Validators.Jailed.x2,a0.Validators.Dead.x2⟩:zq),(⟨a0.Validators.Tokens.x3,a0.Validators.Shares.x3,a0.Validators.Lost.x3,a0.Validators.Jailed.x3,a0.Validators.Dead.x3⟩:zq),(⟨a0.Validators.Tokens.x4,a0.Validators.Shares.x4,a0.Validators.Lost.x4,a0.Validators.Jailed.x4,a0.Validators.Dead.x4⟩:zq),(⟨a0.Validators.Tokens.x5,a0.Validators.Shares.x5,a0.Validators.Lost.x5,a0.Validators.Jailed.x5,a0.Validators.Dead.x5⟩:zq)⟩:(A6 zq)) 0 []) fun v1 =>
 (.bind (znm v1) fun v2 =>
 (.guard ((0:Int)≤(if 4 < ((v2.length:Nat):Int) then 4 else ((v2.length:Nat):Int))∧(if 4 < ((v2.length:Nat):Int) then 4 else ((v2.length:Nat):Int))≤((Sl.len (.powers v2):Nat):Int))
 (.bind (zxb ((v2.drop 0).take ((if 4 < ((v2.length:Nat):Int) then 4 else ((v2.length:Nat):Int)).toNat - 0))) fun v3 =>
 (.leaf v3)))))
def ztp (a0:Stake):=(zwl a0).run
def z16:SpecT:=zw 0 (Par.q (Par.ofLP stakeL)) 1 [] zwl default (Par.q zp) 1 []
theorem z81:zg Tryz.prog 71 (z16).spec :=
 sK (A:=⟨[([0,1,0,1,1],zaun)],[],[],zv66,[]⟩) zh66 fM Tryz.func71 (c:=(fb Tryz.f71)) (by kernel_rfl) (Lc:=0) ⟨zaz1,trivial⟩ _ _ 7 _ _ _ _ _ _ [.pub 2] (by rintro a0;kernel_rfl)
end
