/-
  The functions, each by its tree.
-/
import Derived.Test.YtiacgjebngnddaaGreatXAbC
import Derived.Test.YtiacgjebngnddaaGreatXFRatio
import Derived.Test.YtiacgjebngnddaaGreatXFacts
namespace Go.Proofs.YtiacgjebngnddaaGreat.Ab
open Go Go.RowKit
open Go.IntKind (i64 u64)
set_option maxRecDepth 100000
set_option linter.unusedVariables false
set_option linter.unusedSimpArgs false
noncomputable section
def zv7:List (List Nat):=[[0],[0,1],[0,1,3],[0,1,3,4],[0,1,2,3],[0,1,3],[0,1,3],[0]]
def ze6 (x0:Int) (x1 x2:Bank): Tr ((Int×Bank×Bank)⊕(Bank×Bank)) :=
 (.ite (decide (x0 < 4))
  (.guard ((0:Int)≤x0∧(x0:Int) < 4)
  (.leaf (.inl (i64.wrap (x0+1),x1,{ x2 with Free:=(x2.Free.set x0 100000) }))))
  (.leaf (.inr (x1,x2))))
def zow (x0:Int) (x1 x2:Bank):=zde (fun s:Int×Bank×Bank=>(ze6 s.1 s.2.1 s.2.2).run) (x0,x1,x2)
def za7a:Ann:=⟨[],[],[],zv7,[]⟩
def zq7a:=EndD.mk (LQ.kp 0 0 (LQ.kp 1 0 (LQ.v intP (LQ.seq (LP.q bankL) (LP.q bankL))))) ⟨[0,1,3],[]⟩ [.cells 35 7,.cells 35 7]
def zarl:=EndD.mk (LQ.kp 0 0 (LQ.kp 1 0 (LQ.seq (LP.q bankL) (LP.q bankL)))) ⟨[0,1],[]⟩ [.cells 35 7,.cells 35 7]
def zl7a:St→Option LR:=L1 11 4 0 zq7a (.exit 0) zarl (u3 ze6)
def zs7a:=sub (fb Tryz.f86) [0,1,0,1,1]
theorem zk7a:zq (zyN).env 0 zs7a zl7a :=
 zgy (A:=za7a) zhN fM trivial (k:=zca zs7a) (by kernel_rfl) rfl (by rintro ⟨x0,x1,x2⟩;kernel_rfl)
def zxz  : Tr (Bank) :=
 (.bind (zow 0 (⟨(⟨0,0,0,0⟩:(A4 Int)),0,0,0⟩:Bank) (⟨(⟨0,0,0,0⟩:(A4 Int)),0,0,0⟩:Bank)) fun v1 =>
 (.leaf v1.2))
def zu6  := (zxz ).run
def z3w:SpecT:=zt 0 LQ.nil 0 [] (fun s=>zxz ) default (Par.q (Par.ofLP bankL)) 1 []
theorem zaad:zg Tryz.prog 86 (z3w).spec :=
 sK (A:=⟨[([0,1,0,1,1],zl7a)],[],[],zv7,[]⟩) zhN fM Tryz.func86 (c:=(fb Tryz.f86)) (by kernel_rfl) (Lc:=0) ⟨zk7a,trivial⟩ _ _ 4 _ _ _ _ _ _ [] (by rintro _;kernel_rfl)
def zv8:List (List Nat):=[[1],[1,3],[3,15,16],[3,15,16,17],[3,5,15,16],[3,15,16],[3,15,16],[2]]
def ze7 (x0:Int) (x1:(A4 Int)) (x2:Int): Tr ((Int×(A4 Int)×Int)⊕(Int)) :=
 (.ite (decide (x2 < 4))
  (.guard ((0:Int)≤x2∧(x2:Int) < 4)
  (.leaf (.inl (i64.wrap (x0+(x1.get x2)),x1,i64.wrap (x2+1)))))
  (.leaf (.inr x0)))
def zox (x0:Int) (x1:(A4 Int)) (x2:Int):=zde (fun s:Int×(A4 Int)×Int=>(ze7 s.1 s.2.1 s.2.2).run) (x0,x1,x2)
def za8a:Ann:=⟨[],[],[],zv8,[]⟩
def zq8a:=EndD.mk (LQ.v intP (LQ.seq (Par.q (Par.ofLP (a4L (LP.one intP)))) (Par.q intP))) ⟨[3,15,16],[]⟩ []
def zarm:=EndD.mk (Par.q intP) ⟨[3],[]⟩ []
def zl8a:St→Option LR:=L1 24 3 0 zq8a (.exit 0) zarm (u3 ze7)
def zs8a:=sub (fb Tryz.f122) [0,1,0,1,1]
theorem zk8a:zq (zyN).env 0 zs8a zl8a :=
 zgy (A:=za8a) zhN fM trivial (k:=zca zs8a) (by kernel_rfl) rfl (by rintro ⟨x0,x1,x2⟩;kernel_rfl)
def zx0 (a0:Bank): Tr (Int) :=
 (.bind (zox (i64.wrap ((i64.wrap (a0.Bonded+a0.Waiting))+a0.Burnt)) a0.Free 0) fun v1 =>
 (.leaf v1))
def zu7 (a0:Bank):=(zx0 a0).run
def z3x:SpecT:=zt 0 (Par.q (Par.ofLP bankL)) 1 [] zx0 default (Par.q intP) 1 []
theorem zaae:zg Tryz.prog 122 (z3x).spec :=
 sK (A:=⟨[([0,1,0,1,1],zl8a)],[],[],zv8,[]⟩) zhN fM Tryz.func122 (c:=(fb Tryz.f122)) (by kernel_rfl) (Lc:=0) ⟨zk8a,trivial⟩ _ _ 3 _ _ _ _ _ _ [] (by rintro a0;kernel_rfl)
def zv9:List (List Nat):=[[1],[1,14,15,16],[1,14,15,16,17],[1,4,14,15,16],[1,14,15,16,25],[2],[1,14,15,16],[2]]
noncomputable def zy9:EnvT:=⟨Tryz.prog,zad [(122,z3x)]⟩
theorem zh9:(zy9).Ok:=zf ⟨zaae,trivial⟩
def zg8 (x0 x1:Int) (x2:Bank) (x3:(List Int)): Tr ((Int×Int×Bank×(List Int))⊕((Bool)⊕(Bank))) :=
 (.ite (decide (x1 < x0))
  (.guard ((0:Int)≤x1∧x1 < ((Sl.len (.ints x3):Nat):Int))
  (.ite ((decide ((x3.getD x1.toNat 0) < 0))||(decide ((x3.getD x1.toNat 0) > 400000)))
   (.leaf (.inr (.inl false)))
   (.leaf (.inl (x0,i64.wrap (x1+1),x2,x3)))))
  (.leaf (.inr (.inr x2))))
def zsd (x0 x1:Int) (x2:Bank) (x3:(List Int)):=zde (fun s:Int×Int×Bank×(List Int)=>(zg8 s.1 s.2.1 s.2.2.1 s.2.2.2).run) (x0,x1,x2,x3)
def za9a:Ann:=⟨[],[],[],zv9,[]⟩
def zq9a:=EndD.mk (LQ.kp 0 0 (LQ.k (LQ.c (.own 1)) (LQ.v intP (LQ.v intP (LQ.seq (LP.q bankL) (Par.q zf3)))))) ⟨[1,14,15,16],[.nilown 14 3 (.ints [])]⟩ [.cells 35 7,.rows 3]
def zarn:=EndD.mk (Par.q boolP) ⟨[2],[]⟩ []
def zaro:=EndD.mk (LQ.kp 0 0 (LP.q bankL)) ⟨[1],[]⟩ [.cells 35 7]
def zl9a:St→Option LR:=L2 30 5 0 zq9a .ret zarn (.exit 0) zaro (u4 zg8)
def zs9a:=sub (fb Tryz.f88) [0,1,0,1]
theorem zk9a:zq (zy9).env 0 zs9a zl9a :=
 zou (A:=za9a) zh9 fM trivial (k:=zca zs9a) (by kernel_rfl) rfl rfl (by rintro ⟨x0,x1,x2,x3⟩;kernel_rfl)
def zu8 (a0:Bank): Tr (Bool) :=
 (.guard ((Sl.len (.ints [a0.Free.x0,a0.Free.x1,a0.Free.x2,a0.Free.x3])+Sl.len (.ints [a0.Bonded,a0.Waiting,a0.Burnt]))*8≤140737488355328)
 (.guard (0 < Sl.len (.ints [a0.Bonded,a0.Waiting,a0.Burnt]))
 (.two (zsd ((([a0.Free.x0,a0.Free.x1,a0.Free.x2,a0.Free.x3]++[a0.Bonded,a0.Waiting,a0.Burnt]).length:Nat):Int) 0 a0 ([a0.Free.x0,a0.Free.x1,a0.Free.x2,a0.Free.x3]++[a0.Bonded,a0.Waiting,a0.Burnt])) (fun v1 =>
  (.leaf v1)) (fun v2 =>
  (.bind (zu7 v2) fun v3 =>
  (.leaf (v3==400000)))))))
def zez (a0:Bank):=(zu8 a0).run
def zhw:SpecT:=zt 0 (Par.q (Par.ofLP bankL)) 1 [] zu8 default (Par.q boolP) 1 []
theorem zii:zg Tryz.prog 88 (zhw).spec :=
 sK (A:=⟨[([0,1,0,1],zl9a)],[],[],zv9,[]⟩) zh9 fM Tryz.func88 (c:=(fb Tryz.f88)) (by kernel_rfl) (Lc:=0) ⟨zk9a,trivial⟩ _ _ 5 _ _ _ _ _ _ [] (by rintro a0;kernel_rfl)
def zho (a0:Int): Tr (Bool) :=
 (.leaf ((decide (a0≥0))&&(decide (a0 < 4))))
def zgk (a0:Int):=(zho a0).run
def zlc:SpecT:=zt 0 (Par.q intP) 1 [] zho default (Par.q boolP) 1 []
theorem zpx:zg Tryz.prog 95 (zlc).spec :=
 sK (A:=⟨[],[],[],[[0],[2]],[]⟩) zhN fM Tryz.func95 (c:=(fb Tryz.f95)) (by kernel_rfl) (Lc:=0) trivial _ _ 2 _ _ _ _ _ _ [] (by rintro a0;kernel_rfl)
def zqp (a0:Bank) (a1:Int): Tr (Int×Bank×Int) :=
 (.guard ((0:Int)≤a1∧(a1:Int) < 4)
 (.leaf (a1,a0,a1)))
def zg9 (a0:Bank) (a1:Int):=(zqp a0 a1).run
def zqq:SpecT:=zt 2 (LQ.kp 0 0 (LQ.kp 1 0 (LQ.seq (LP.q bankL) (Par.q intP)))) 2 [.cells 35 7,.cells 3 1] (u2 zqp) default (LQ.seq (LQ.pix1 0 0 4 1 0) (LQ.seq (LP.q bankL) (Par.q intP))) 1 [.cells 35 7,.cells 3 1]
theorem zuf:zg Tryz.prog 125 (zqq).spec :=
 sK (A:=⟨[],[],[],[[0,1],[3]],[]⟩) zhN fM Tryz.func125 (c:=(fb Tryz.f125)) (by kernel_rfl) (Lc:=2) trivial _ _ 4 _ _ _ _ _ _ [] (by rintro ⟨a0,a1⟩;kernel_rfl)
def zqr (a0:Int): Tr (Int) :=
 (.leaf a0)
def zbz (a0:Int):=(zqr a0).run
def zu9:SpecT:=zt 0 (Par.q intP) 1 [] zqr default (LQ.k (LQ.c (.fn 125 [.ptr 0 0])) (Par.q intP)) 1 [.cells 3 1]
theorem zys:zg Tryz.prog 97 (zu9).spec :=
 sK (A:=⟨[],[],[],[[1],[2]],[]⟩) zhN fM Tryz.func97 (c:=(fb Tryz.f97)) (by kernel_rfl) (Lc:=0) trivial _ _ 3 _ _ _ _ _ _ [] (by rintro a0;kernel_rfl)
def zqs (a0:Bank): Tr (Bank) :=
 (.leaf a0)
def zd4 (a0:Bank):=(zqs a0).run
def zmc:SpecT:=zt 1 (LQ.kp 0 0 (LP.q bankL)) 1 [.cells 35 7] zqs default (LQ.kp 0 4 (LP.q bankL)) 1 [.cells 35 7]
theorem zoy:zg Tryz.prog 98 (zmc).spec :=
 sK (A:=⟨[],[],[],[[0],[2]],[]⟩) zhN fM Tryz.func98 (c:=(fb Tryz.f98)) (by kernel_rfl) (Lc:=1) trivial _ _ 3 _ _ _ _ _ _ [] (by rintro a0;kernel_rfl)
def zoz (a0:Bank): Tr (Bank) :=
 (.leaf a0)
def zc6 (a0:Bank):=(zoz a0).run
def zkh:SpecT:=zt 1 (LQ.kp 0 0 (LP.q bankL)) 1 [.cells 35 7] zoz default (LQ.kp 0 5 (LP.q bankL)) 1 [.cells 35 7]
theorem zmx:zg Tryz.prog 99 (zkh).spec :=
 sK (A:=⟨[],[],[],[[0],[2]],[]⟩) zhN fM Tryz.func99 (c:=(fb Tryz.f99)) (by kernel_rfl) (Lc:=1) trivial _ _ 3 _ _ _ _ _ _ [] (by rintro a0;kernel_rfl)
def zse (a0:Bank): Tr (Bank) :=
 (.leaf a0)
def zmd (a0:Bank):=(zse a0).run
def zsf:SpecT:=zt 1 (LQ.kp 0 0 (LP.q bankL)) 1 [.cells 35 7] zse default (LQ.kp 0 6 (LP.q bankL)) 1 [.cells 35 7]
theorem zwq:zg Tryz.prog 100 (zsf).spec :=
 sK (A:=⟨[],[],[],[[0],[2]],[]⟩) zhN fM Tryz.func100 (c:=(fb Tryz.f100)) (by kernel_rfl) (Lc:=1) trivial _ _ 3 _ _ _ _ _ _ [] (by rintro a0;kernel_rfl)
noncomputable def zy16:EnvT:=⟨Tryz.prog,zad [(88,zhw),(89,zih),(125,zqq),(98,zmc)]⟩
theorem zh16:(zy16).Ok:=zf ⟨zii,zhv,zuf,zoy,trivial⟩
def zqt (a0:Bank) (a1 a2:Int): Tr (Bank×Int×Int) :=
 (.bind (zez a0) fun v1 =>
 (.guard (((!v1)=false→((z7 a1).isSome=true)∧True))
 (.ite ((!v1)||(!((z7 a1).getD default)))
  (.leaf (a0,2,a2))
  (.bind (zg9 a0 a2) fun v2 =>
  (.ite (decide ((v2.2.1.Free.get v2.1) < a1))
   (.leaf (v2.2.1,7,v2.2.2))
   (.bind (zg9 v2.2.1 v2.2.2) fun v3 =>
   (.bind (zd4 ({ v3.2.1 with Free:=(v3.2.1.Free.set v3.1 (i64.wrap ((v3.2.1.Free.get v3.1) - a1))) })) fun v4 =>
   (.leaf ({ v4 with Bonded:=i64.wrap (v4.Bonded+a1) },0,v3.2.2)))))))))
def zha (a0:Bank) (a1 a2:Int):=(zqt a0 a1 a2).run
def zwr:SpecT:=zt 1 (LQ.v (Par.ofLP bankL) (LQ.k (LQ.c (.fn 125 [.ptr 0 0])) (LQ.k (LQ.c (.fn 98 [])) (LQ.v intP (Par.q intP))))) 4 [.cells 3 1] (u3 zqt) default (LQ.v (Par.ofLP bankL) (LQ.v intP (Par.q intP))) 2 [.cells 3 1]
theorem z2z:zg Tryz.prog 96 (zwr).spec :=
 sK (A:=⟨[],[],[],[[1,2,3,4,8],[1,2,3,4,8,10],[8,9],[1,2,3,4,8,20],[8,9],[2,3,4,8],[4,8],[8,9]],[]⟩) zh16 fM Tryz.func96 (c:=(fb Tryz.f96)) (by kernel_rfl) (Lc:=1) trivial _ _ 5 _ _ _ _ _ _ [] (by rintro ⟨a0,a1,a2⟩;kernel_rfl)
noncomputable def zy17:EnvT:=⟨Tryz.prog,zad [(88,zhw),(89,zih),(98,zmc),(99,zkh)]⟩
theorem zh17:(zy17).Ok:=zf ⟨zii,zhv,zoy,zmx,trivial⟩
def zqu (a0:Bank) (a1:Int): Tr (Bank×Int) :=
 (.bind (zez a0) fun v1 =>
 (.guard (((!v1)=false→((z7 a1).isSome=true)∧True))
 (.ite ((!v1)||(!((z7 a1).getD default)))
  (.leaf (a0,2))
  (.bind (zd4 a0) fun v2 =>
  (.ite (decide (v2.Bonded < a1))
   (.leaf (v2,7))
   (.bind (zd4 v2) fun v3 =>
   (.bind (zc6 ({ v3 with Bonded:=i64.wrap (v3.Bonded - a1) })) fun v4 =>
   (.leaf ({ v4 with Waiting:=i64.wrap (v4.Waiting+a1) },0)))))))))
def zo0 (a0:Bank) (a1:Int):=(zqu a0 a1).run
def zws:SpecT:=zt 0 (LQ.v (Par.ofLP bankL) (LQ.k (LQ.c (.fn 98 [])) (LQ.k (LQ.c (.fn 99 [])) (Par.q intP)))) 4 [] (u2 zqu) default (LQ.v (Par.ofLP bankL) (Par.q intP)) 2 []
theorem z20:zg Tryz.prog 96 (zws).spec :=
 sK (A:=⟨[],[],[],[[1,2,3,4,8],[1,2,3,4,8,10],[8,9],[1,2,3,4,8,20],[8,9],[2,3,4,8],[4,8],[8,9]],[]⟩) zh17 fM Tryz.func96 (c:=(fb Tryz.f96)) (by kernel_rfl) (Lc:=0) trivial _ _ 4 _ _ _ _ _ _ [] (by rintro ⟨a0,a1⟩;kernel_rfl)
noncomputable def zy18:EnvT:=⟨Tryz.prog,zad [(88,zhw),(89,zih),(99,zkh),(125,zqq)]⟩
theorem zh18:(zy18).Ok:=zf ⟨zii,zhv,zmx,zuf,trivial⟩
def zqv (a0:Bank) (a1 a2:Int): Tr (Bank×Int×Int) :=
 (.bind (zez a0) fun v1 =>
 (.guard (((!v1)=false→((z7 a1).isSome=true)∧True))
 (.ite ((!v1)||(!((z7 a1).getD default)))
  (.leaf (a0,2,a2))
  (.bind (zc6 a0) fun v2 =>
  (.ite (decide (v2.Waiting < a1))
   (.leaf (v2,7,a2))
   (.bind (zc6 v2) fun v3 =>
   (.bind (zg9 ({ v3 with Waiting:=i64.wrap (v3.Waiting - a1) }) a2) fun v4 =>
   (.leaf ({ v4.2.1 with Free:=(v4.2.1.Free.set v4.1 (i64.wrap ((v4.2.1.Free.get v4.1)+a1))) },0,v4.2.2)))))))))
def zhb (a0:Bank) (a1 a2:Int):=(zqv a0 a1 a2).run
def zwt:SpecT:=zt 1 (LQ.v (Par.ofLP bankL) (LQ.k (LQ.c (.fn 99 [])) (LQ.k (LQ.c (.fn 125 [.ptr 0 0])) (LQ.v intP (Par.q intP))))) 4 [.cells 3 1] (u3 zqv) default (LQ.v (Par.ofLP bankL) (LQ.v intP (Par.q intP))) 2 [.cells 3 1]
theorem z21:zg Tryz.prog 96 (zwt).spec :=
 sK (A:=⟨[],[],[],[[1,2,3,4,8],[1,2,3,4,8,10],[8,9],[1,2,3,4,8,20],[8,9],[2,3,4,8],[4,8],[8,9]],[]⟩) zh18 fM Tryz.func96 (c:=(fb Tryz.f96)) (by kernel_rfl) (Lc:=1) trivial _ _ 5 _ _ _ _ _ _ [] (by rintro ⟨a0,a1,a2⟩;kernel_rfl)
noncomputable def zy19:EnvT:=⟨Tryz.prog,zad [(88,zhw),(89,zih),(98,zmc),(100,zsf)]⟩
theorem zh19:(zy19).Ok:=zf ⟨zii,zhv,zoy,zwq,trivial⟩
def zqw (a0:Bank) (a1:Int): Tr (Bank×Int) :=
 (.bind (zez a0) fun v1 =>
 (.guard (((!v1)=false→((z7 a1).isSome=true)∧True))
 (.ite ((!v1)||(!((z7 a1).getD default)))
  (.leaf (a0,2))
  (.bind (zd4 a0) fun v2 =>
  (.ite (decide (v2.Bonded < a1))
   (.leaf (v2,7))
   (.bind (zd4 v2) fun v3 =>
   (.bind (zmd ({ v3 with Bonded:=i64.wrap (v3.Bonded - a1) })) fun v4 =>
   (.leaf ({ v4 with Burnt:=i64.wrap (v4.Burnt+a1) },0)))))))))
def zo1 (a0:Bank) (a1:Int):=(zqw a0 a1).run
def zwu:SpecT:=zt 0 (LQ.v (Par.ofLP bankL) (LQ.k (LQ.c (.fn 98 [])) (LQ.k (LQ.c (.fn 100 [])) (Par.q intP)))) 4 [] (u2 zqw) default (LQ.v (Par.ofLP bankL) (Par.q intP)) 2 []
theorem z22:zg Tryz.prog 96 (zwu).spec :=
 sK (A:=⟨[],[],[],[[1,2,3,4,8],[1,2,3,4,8,10],[8,9],[1,2,3,4,8,20],[8,9],[2,3,4,8],[4,8],[8,9]],[]⟩) zh19 fM Tryz.func96 (c:=(fb Tryz.f96)) (by kernel_rfl) (Lc:=0) trivial _ _ 4 _ _ _ _ _ _ [] (by rintro ⟨a0,a1⟩;kernel_rfl)
noncomputable def zy20:EnvT:=⟨Tryz.prog,zad [(88,zhw),(89,zih),(99,zkh),(100,zsf)]⟩
theorem zh20:(zy20).Ok:=zf ⟨zii,zhv,zmx,zwq,trivial⟩
def zqx (a0:Bank) (a1:Int): Tr (Bank×Int) :=
 (.bind (zez a0) fun v1 =>
 (.guard (((!v1)=false→((z7 a1).isSome=true)∧True))
 (.ite ((!v1)||(!((z7 a1).getD default)))
  (.leaf (a0,2))
  (.bind (zc6 a0) fun v2 =>
  (.ite (decide (v2.Waiting < a1))
   (.leaf (v2,7))
   (.bind (zc6 v2) fun v3 =>
   (.bind (zmd ({ v3 with Waiting:=i64.wrap (v3.Waiting - a1) })) fun v4 =>
   (.leaf ({ v4 with Burnt:=i64.wrap (v4.Burnt+a1) },0)))))))))
def zo2 (a0:Bank) (a1:Int):=(zqx a0 a1).run
def zwv:SpecT:=zt 0 (LQ.v (Par.ofLP bankL) (LQ.k (LQ.c (.fn 99 [])) (LQ.k (LQ.c (.fn 100 [])) (Par.q intP)))) 4 [] (u2 zqx) default (LQ.v (Par.ofLP bankL) (Par.q intP)) 2 []
theorem z23:zg Tryz.prog 96 (zwv).spec :=
 sK (A:=⟨[],[],[],[[1,2,3,4,8],[1,2,3,4,8,10],[8,9],[1,2,3,4,8,20],[8,9],[2,3,4,8],[4,8],[8,9]],[]⟩) zh20 fM Tryz.func96 (c:=(fb Tryz.f96)) (by kernel_rfl) (Lc:=0) trivial _ _ 4 _ _ _ _ _ _ [] (by rintro ⟨a0,a1⟩;kernel_rfl)
def zmy:SpecT:=altT zwr (altT zws (altT zwt (altT zwu (zwv))))
theorem zob:zg Tryz.prog 96 (zmy).spec:=z44 z2z (z44 z20 (z44 z21 (z44 z22 (z23))))
noncomputable def zy22:EnvT:=⟨Tryz.prog,zad [(95,zlc),(97,zu9),(96,zmy)]⟩
theorem zh22:(zy22).Ok:=zf ⟨zpx,zys,zob,trivial⟩
def zva (a0:Bank) (a1 a2:Int): Tr (Bank×Int) :=
 (.bind (zgk a1) fun v1 =>
 (.ite (!v1)
  (.leaf (a0,4))
  (.guard ((zbz a1).isSome=true)
  (.guard ((zha a0 a2 ((zbz a1).getD default)).isSome=true)
  (.leaf ((((zha a0 a2 ((zbz a1).getD default)).getD default).1),((zha a0 a2 ((zbz a1).getD default)).getD default).2.1))))))
def zoc (a0:Bank) (a1 a2:Int):=(zva a0 a1 a2).run
def z0v:SpecT:=zt 0 (LQ.v (Par.ofLP bankL) (LQ.v intP (Par.q intP))) 3 [] (u3 zva) default (LQ.v (Par.ofLP bankL) (Par.q intP)) 2 []
theorem z7v:zg Tryz.prog 62 (z0v).spec :=
 sK (A:=⟨[],[],[],[[1,2,3,6],[1,2,3,6,10],[6,7],[6,7]],[]⟩) zh22 fM Tryz.func62 (c:=(fb Tryz.f62)) (by kernel_rfl) (Lc:=0) trivial _ _ 5 _ _ _ _ _ _ [] (by rintro ⟨a0,a1,a2⟩;kernel_rfl)
noncomputable def zy23:EnvT:=⟨Tryz.prog,zad [(96,zmy)]⟩
theorem zh23:(zy23).Ok:=zf ⟨zob,trivial⟩
def zqy (a0:Bank) (a1:Int): Tr (Bank×Int) :=
 (.bind (zo0 a0 a1) fun v2 =>
 (.leaf (v2.1,v2.2)))
def zhc (a0:Bank) (a1:Int):=(zqy a0 a1).run
def zww:SpecT:=zt 0 (LQ.v (Par.ofLP bankL) (Par.q intP)) 2 [] (u2 zqy) default (LQ.v (Par.ofLP bankL) (Par.q intP)) 2 []
theorem z24:zg Tryz.prog 63 (zww).spec :=
 sK (A:=⟨[],[],[],[[1,2,4],[4,5]],[]⟩) zh23 fM Tryz.func63 (c:=(fb Tryz.f63)) (by kernel_rfl) (Lc:=0) trivial _ _ 4 _ _ _ _ _ _ [] (by rintro ⟨a0,a1⟩;kernel_rfl)
noncomputable def zy24:EnvT:=⟨Tryz.prog,zad [(95,zlc),(97,zu9),(96,zmy)]⟩
theorem zh24:(zy24).Ok:=zf ⟨zpx,zys,zob,trivial⟩
def zx1 (a0:Bank) (a1 a2:Int): Tr (Bank×Int) :=
 (.bind (zgk a1) fun v1 =>
 (.ite (!v1)
  (.leaf (a0,4))
  (.guard ((zbz a1).isSome=true)
  (.guard ((zhb a0 a2 ((zbz a1).getD default)).isSome=true)
  (.leaf ((((zhb a0 a2 ((zbz a1).getD default)).getD default).1),((zhb a0 a2 ((zbz a1).getD default)).getD default).2.1))))))
def zvb (a0:Bank) (a1 a2:Int):=(zx1 a0 a1 a2).run
def z3y:SpecT:=zt 0 (LQ.v (Par.ofLP bankL) (LQ.v intP (Par.q intP))) 3 [] (u3 zx1) default (LQ.v (Par.ofLP bankL) (Par.q intP)) 2 []
theorem zaaf:zg Tryz.prog 107 (z3y).spec :=
 sK (A:=⟨[],[],[],[[1,2,3,6],[1,2,3,6,10],[6,7],[6,7]],[]⟩) zh24 fM Tryz.func107 (c:=(fb Tryz.f107)) (by kernel_rfl) (Lc:=0) trivial _ _ 5 _ _ _ _ _ _ [] (by rintro ⟨a0,a1,a2⟩;kernel_rfl)
noncomputable def zy25:EnvT:=⟨Tryz.prog,zad [(96,zmy)]⟩
theorem zh25:(zy25).Ok:=zf ⟨zob,trivial⟩
def zvc (a0:Bank) (a1 a2:Int): Tr (Bank×Int) :=
 (.bind (zo1 a0 a1) fun v4 =>
 (.ite (v4.2 != 0)
  (.leaf (a0,v4.2))
  (.bind (zo2 v4.1 a2) fun v9 =>
  (.ite (v9.2 != 0)
   (.leaf (a0,v9.2))
   (.leaf (v9.1,0))))))
def zsg (a0:Bank) (a1 a2:Int):=(zvc a0 a1 a2).run
def z0w:SpecT:=zt 0 (LQ.v (Par.ofLP bankL) (LQ.v intP (Par.q intP))) 3 [] (u3 zvc) default (LQ.v (Par.ofLP bankL) (Par.q intP)) 2 []
theorem z7w:zg Tryz.prog 66 (z0w).spec :=
 sK (A:=⟨[],[],[],[[1,2,3,6],[2,3,6,8,9],[2,3,6,8,9,17],[6,7],[3,6,8,9],[3,6,8,9,27],[6,7],[6,7]],[]⟩) zh25 fM Tryz.func66 (c:=(fb Tryz.f66)) (by kernel_rfl) (Lc:=0) trivial _ _ 5 _ _ _ _ _ _ [] (by rintro ⟨a0,a1,a2⟩;kernel_rfl)
def zju (a0:Int): Tr (Int) :=
 (.guard ((5:Int)≠0)
 (.leaf (if (i64.wrap (Int.tdiv a0 5)) > 1 then (i64.wrap (Int.tdiv a0 5)) else 1)))
def zit (a0:Int):=(zju a0).run
def zpy:SpecT:=zt 0 (Par.q intP) 1 [] zju default (Par.q intP) 1 []
theorem zwx:zg Tryz.prog 87 (zpy).spec :=
 sK (A:=⟨[],[],[],[[0],[2]],[]⟩) zhN fM Tryz.func87 (c:=(fb Tryz.f87)) (by kernel_rfl) (Lc:=0) trivial _ _ 2 _ _ _ _ _ _ [] (by rintro a0;kernel_rfl)
noncomputable def zy27:EnvT:=⟨Tryz.prog,zad [(87,zpy)]⟩
theorem zh27:(zy27).Ok:=zf ⟨zwx,trivial⟩
def zvd (a0 a1:Int): Tr (Meter) :=
 (.bind (zit a0) fun v1 =>
 (.leaf (⟨v1,i64.wrap (a1+10)⟩:Meter)))
def zod (a0 a1:Int):=(zvd a0 a1).run
def zve:SpecT:=zt 0 (LQ.v intP (Par.q intP)) 2 [] (u2 zvd) default (Par.q (Par.ofLP meterL)) 1 []
theorem zyt:zg Tryz.prog 55 (zve).spec :=
 sK (A:=⟨[],[],[],[[0,1,4],[4]],[]⟩) zh27 fM Tryz.func55 (c:=(fb Tryz.f55)) (by kernel_rfl) (Lc:=0) trivial _ _ 3 _ _ _ _ _ _ [] (by rintro ⟨a0,a1⟩;kernel_rfl)
noncomputable def zy28:EnvT:=⟨Tryz.prog,zad [(55,zve)]⟩
theorem zh28:(zy28).Ok:=zf ⟨zyt,trivial⟩
def zsh (a0:Meter) (a1 a2:Int): Tr (Meter) :=
 (.ite (decide (a2≥a0.Next))
  (.bind (zod a1 a2) fun v1 =>
  (.leaf v1))
  (.leaf a0))
def zme (a0:Meter) (a1 a2:Int):=(zsh a0 a1 a2).run
def zyu:SpecT:=zt 0 (LQ.v (Par.ofLP meterL) (LQ.v intP (Par.q intP))) 3 [] (u3 zsh) default (Par.q (Par.ofLP meterL)) 1 []
theorem z5x:zg Tryz.prog 67 (zyu).spec :=
 sK (A:=⟨[],[],[],[[1,2,3,6],[1,2,3,6,10],[6],[6]],[]⟩) zh28 fM Tryz.func67 (c:=(fb Tryz.f67)) (by kernel_rfl) (Lc:=0) trivial _ _ 4 _ _ _ _ _ _ [] (by rintro ⟨a0,a1,a2⟩;kernel_rfl)
def zsi (a0:Meter) (a1:Int): Tr (Meter×Bool) :=
 (.ite (decide (a0.Left≤0))
  (.leaf (a0,false))
  (.leaf ((⟨i64.wrap (a0.Left - a1),a0.Next⟩:Meter),true)))
def zgl (a0:Meter) (a1:Int):=(zsi a0 a1).run
def zyv:SpecT:=zt 0 (LQ.v (Par.ofLP meterL) (Par.q intP)) 2 [] (u2 zsi) default (LQ.v (Par.ofLP meterL) (Par.q boolP)) 2 []
theorem z5y:zg Tryz.prog 102 (zyv).spec :=
 sK (A:=⟨[],[],[],[[1,2,4],[1,2,4,8],[4,5],[2,4],[4,5]],[]⟩) zhN fM Tryz.func102 (c:=(fb Tryz.f102)) (by kernel_rfl) (Lc:=0) trivial _ _ 4 _ _ _ _ _ _ [] (by rintro ⟨a0,a1⟩;kernel_rfl)
end
