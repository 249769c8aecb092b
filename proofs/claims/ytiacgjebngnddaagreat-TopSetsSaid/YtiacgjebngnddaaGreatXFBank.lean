/-
  The functions, each by its tree.
-/
import Derived.Test.YtiacgjebngnddaaGreatXAbC
import Derived.Test.YtiacgjebngnddaaGreatXFRatio
import Derived.Test.YtiacgjebngnddaaGreatXFacts
namespace Go.Proofs.YtiacgjebngnddaaGreat.Ab
open Go Go.RowKit
open Go.IntKind (i64 u64)
set_option maxRecDepth 100000
set_option linter.unusedVariables false
set_option linter.unusedSimpArgs false
noncomputable section
def zv7:List (List Nat):=[[0],[0,1],[0,1,3],[0,1,3,4],[0,1,2,3],[0,1,3],[0,1,3],[0]]
def zex (x0:Int) (x1 x2:Bank): Tr ((Int×Bank×Bank)⊕(Bank×Bank)) :=
 (.ite (decide (x0 < 4))
  (.guard ((0:Int)≤x0∧(x0:Int) < 4)
  (.leaf (.inl (i64.wrap (x0+1),x1,{ x2 with Free:=(x2.Free.set x0 100000) }))))
  (.leaf (.inr (x1,x2))))
def zoe (x0:Int) (x1 x2:Bank):=zd3 (fun s:Int×Bank×Bank=>(zex s.1 s.2.1 s.2.2).run) (x0,x1,x2)
def za7a:Ann:=⟨[],[],[],zv7,[]⟩
def zq7a:=EndD.mk (LQ.kp 0 0 (LQ.kp 1 0 (LQ.v intP (LQ.seq (LP.q bankL) (LP.q bankL))))) ⟨[0,1,3],[]⟩ [.cells 35 7,.cells 35 7]
def zapm:=EndD.mk (LQ.kp 0 0 (LQ.kp 1 0 (LQ.seq (LP.q bankL) (LP.q bankL)))) ⟨[0,1],[]⟩ [.cells 35 7,.cells 35 7]
def zl7a:St→Option LR:=L1 11 4 0 zq7a (.exit 0) zapm (u3 zex)
def zs7a:=sub (fb Tryz.f86) [0,1,0,1,1]
theorem zk7a:zt (zyN).env 0 zs7a zl7a :=
 zhm (A:=za7a) zhN fM trivial (k:=zch zs7a) (by kernel_rfl) rfl (by rintro ⟨x0,x1,x2⟩;kernel_rfl)
def zxa  : Tr (Bank) :=
 (.bind (zoe 0 (⟨(⟨0,0,0,0⟩:(A4 Int)),0,0,0⟩:Bank) (⟨(⟨0,0,0,0⟩:(A4 Int)),0,0,0⟩:Bank)) fun v1 =>
 (.leaf v1.2))
def zup  := (zxa ).run
def z2w:SpecT:=zr 0 LQ.nil 0 [] (fun s=>zxa ) default (Par.q (Par.ofLP bankL)) 1 []
theorem z85:zg Tryz.prog 86 (z2w).spec :=
 sK (A:=⟨[([0,1,0,1,1],zl7a)],[],[],zv7,[]⟩) zhN fM Tryz.func86 (c:=(fb Tryz.f86)) (by kernel_rfl) (Lc:=0) ⟨zk7a,trivial⟩ _ _ 4 _ _ _ _ _ _ [] (by rintro _;kernel_rfl)
def zv8:List (List Nat):=[[1],[1,3],[3,15,16],[3,15,16,17],[3,5,15,16],[3,15,16],[3,15,16],[2]]
def zey (x0:Int) (x1:(A4 Int)) (x2:Int): Tr ((Int×(A4 Int)×Int)⊕(Int)) :=
 (.ite (decide (x2 < 4))
  (.guard ((0:Int)≤x2∧(x2:Int) < 4)
  (.leaf (.inl (i64.wrap (x0+(x1.get x2)),x1,i64.wrap (x2+1)))))
  (.leaf (.inr x0)))
def zof (x0:Int) (x1:(A4 Int)) (x2:Int):=zd3 (fun s:Int×(A4 Int)×Int=>(zey s.1 s.2.1 s.2.2).run) (x0,x1,x2)
def za8a:Ann:=⟨[],[],[],zv8,[]⟩
def zq8a:=EndD.mk (LQ.v intP (LQ.seq (Par.q (Par.ofLP (a4L (LP.one intP)))) (Par.q intP))) ⟨[3,15,16],[]⟩ []
def zapn:=EndD.mk (Par.q intP) ⟨[3],[]⟩ []
def zl8a:St→Option LR:=L1 24 3 0 zq8a (.exit 0) zapn (u3 zey)
def zs8a:=sub (fb Tryz.f122) [0,1,0,1,1]
theorem zk8a:zt (zyN).env 0 zs8a zl8a :=
 zhm (A:=za8a) zhN fM trivial (k:=zch zs8a) (by kernel_rfl) rfl (by rintro ⟨x0,x1,x2⟩;kernel_rfl)
def zxb (a0:Bank): Tr (Int) :=
 (.bind (zof (i64.wrap ((i64.wrap (a0.Bonded+a0.Waiting))+a0.Burnt)) a0.Free 0) fun v1 =>
 (.leaf v1))
def zuq (a0:Bank):=(zxb a0).run
def z2x:SpecT:=zr 0 (Par.q (Par.ofLP bankL)) 1 [] zxb default (Par.q intP) 1 []
theorem z86:zg Tryz.prog 122 (z2x).spec :=
 sK (A:=⟨[([0,1,0,1,1],zl8a)],[],[],zv8,[]⟩) zhN fM Tryz.func122 (c:=(fb Tryz.f122)) (by kernel_rfl) (Lc:=0) ⟨zk8a,trivial⟩ _ _ 3 _ _ _ _ _ _ [] (by rintro a0;kernel_rfl)
def zv9:List (List Nat):=[[1],[1,14,15,16],[1,14,15,16,17],[1,4,14,15,16],[1,14,15,16,25],[2],[1,14,15,16],[2]]
noncomputable def zy9:EnvT:=⟨Tryz.prog,zac [(122,z2x)]⟩
theorem zh9:(zy9).Ok:=zf ⟨z86,trivial⟩
def zgy (x0 x1:Int) (x2:Bank) (x3:(List Int)): Tr ((Int×Int×Bank×(List Int))⊕((Bool)⊕(Bank))) :=
 (.ite (decide (x1 < x0))
  (.guard ((0:Int)≤x1∧x1 < ((Sl.len (.ints x3):Nat):Int))
  (.ite ((decide ((x3.getD x1.toNat 0) < 0))||(decide ((x3.getD x1.toNat 0) > 400000)))
   (.leaf (.inr (.inl false)))
   (.leaf (.inl (x0,i64.wrap (x1+1),x2,x3)))))
  (.leaf (.inr (.inr x2))))
def zrv (x0 x1:Int) (x2:Bank) (x3:(List Int)):=zd3 (fun s:Int×Int×Bank×(List Int)=>(zgy s.1 s.2.1 s.2.2.1 s.2.2.2).run) (x0,x1,x2,x3)
def za9a:Ann:=⟨[],[],[],zv9,[]⟩
def zq9a:=EndD.mk (LQ.kp 0 0 (LQ.k (LQ.c (.own 1)) (LQ.v intP (LQ.v intP (LQ.seq (LP.q bankL) (Par.q zfw)))))) ⟨[1,14,15,16],[.nilown 14 3 (.ints [])]⟩ [.cells 35 7,.rows 3]
def zapo:=EndD.mk (Par.q boolP) ⟨[2],[]⟩ []
def zapp:=EndD.mk (LQ.kp 0 0 (LP.q bankL)) ⟨[1],[]⟩ [.cells 35 7]
def zl9a:St→Option LR:=L2 30 5 0 zq9a .ret zapo (.exit 0) zapp (u4 zgy)
def zs9a:=sub (fb Tryz.f88) [0,1,0,1]
theorem zk9a:zt (zy9).env 0 zs9a zl9a :=
 zoc (A:=za9a) zh9 fM trivial (k:=zch zs9a) (by kernel_rfl) rfl rfl (by rintro ⟨x0,x1,x2,x3⟩;kernel_rfl)
def zur (a0:Bank): Tr (Bool) :=
 (.guard ((Sl.len (.ints [a0.Free.x0,a0.Free.x1,a0.Free.x2,a0.Free.x3])+Sl.len (.ints [a0.Bonded,a0.Waiting,a0.Burnt]))*8≤140737488355328)
 (.guard (0 < Sl.len (.ints [a0.Bonded,a0.Waiting,a0.Burnt]))
 (.two (zrv ((([a0.Free.x0,a0.Free.x1,a0.Free.x2,a0.Free.x3]++[a0.Bonded,a0.Waiting,a0.Burnt]).length:Nat):Int) 0 a0 ([a0.Free.x0,a0.Free.x1,a0.Free.x2,a0.Free.x3]++[a0.Bonded,a0.Waiting,a0.Burnt])) (fun v1 =>
  (.leaf v1)) (fun v2 =>
  (.bind (zuq v2) fun v3 =>
  (.leaf (v3==400000)))))))
def zeq (a0:Bank):=(zur a0).run
def zho:SpecT:=zr 0 (Par.q (Par.ofLP bankL)) 1 [] zur default (Par.q boolP) 1 []
theorem zia:zg Tryz.prog 88 (zho).spec :=
 sK (A:=⟨[([0,1,0,1],zl9a)],[],[],zv9,[]⟩) zh9 fM Tryz.func88 (c:=(fb Tryz.f88)) (by kernel_rfl) (Lc:=0) ⟨zk9a,trivial⟩ _ _ 5 _ _ _ _ _ _ [] (by rintro a0;kernel_rfl)
def zhg (a0:Int): Tr (Bool) :=
 (.leaf ((decide (a0≥0))&&(decide (a0 < 4))))
def zgc (a0:Int):=(zhg a0).run
def zk2:SpecT:=zr 0 (Par.q intP) 1 [] zhg default (Par.q boolP) 1 []
theorem zph:zg Tryz.prog 95 (zk2).spec :=
 sK (A:=⟨[],[],[],[[0],[2]],[]⟩) zhN fM Tryz.func95 (c:=(fb Tryz.f95)) (by kernel_rfl) (Lc:=0) trivial _ _ 2 _ _ _ _ _ _ [] (by rintro a0;kernel_rfl)
def zp9 (a0:Bank) (a1:Int): Tr (Int×Bank×Int) :=
 (.guard ((0:Int)≤a1∧(a1:Int) < 4)
 (.leaf (a1,a0,a1)))
def zgz (a0:Bank) (a1:Int):=(zp9 a0 a1).run
def zqa:SpecT:=zr 2 (LQ.kp 0 0 (LQ.kp 1 0 (LQ.seq (LP.q bankL) (Par.q intP)))) 2 [.cells 35 7,.cells 3 1] (u2 zp9) default (LQ.seq (LQ.pix1 0 0 4 1 0) (LQ.seq (LP.q bankL) (Par.q intP))) 1 [.cells 35 7,.cells 3 1]
theorem ztx:zg Tryz.prog 125 (zqa).spec :=
 sK (A:=⟨[],[],[],[[0,1],[3]],[]⟩) zhN fM Tryz.func125 (c:=(fb Tryz.f125)) (by kernel_rfl) (Lc:=2) trivial _ _ 4 _ _ _ _ _ _ [] (by rintro ⟨a0,a1⟩;kernel_rfl)
def zqb (a0:Int): Tr (Int) :=
 (.leaf a0)
def zbt (a0:Int):=(zqb a0).run
def zus:SpecT:=zr 0 (Par.q intP) 1 [] zqb default (LQ.k (LQ.c (.fn 125 [.ptr 0 0])) (Par.q intP)) 1 [.cells 3 1]
theorem zx4:zg Tryz.prog 97 (zus).spec :=
 sK (A:=⟨[],[],[],[[1],[2]],[]⟩) zhN fM Tryz.func97 (c:=(fb Tryz.f97)) (by kernel_rfl) (Lc:=0) trivial _ _ 3 _ _ _ _ _ _ [] (by rintro a0;kernel_rfl)
def zqc (a0:Bank): Tr (Bank) :=
 (.leaf a0)
def zdv (a0:Bank):=(zqc a0).run
def zlz:SpecT:=zr 1 (LQ.kp 0 0 (LP.q bankL)) 1 [.cells 35 7] zqc default (LQ.kp 0 4 (LP.q bankL)) 1 [.cells 35 7]
theorem zog:zg Tryz.prog 98 (zlz).spec :=
 sK (A:=⟨[],[],[],[[0],[2]],[]⟩) zhN fM Tryz.func98 (c:=(fb Tryz.f98)) (by kernel_rfl) (Lc:=1) trivial _ _ 3 _ _ _ _ _ _ [] (by rintro a0;kernel_rfl)
def zoh (a0:Bank): Tr (Bank) :=
 (.leaf a0)
def zc0 (a0:Bank):=(zoh a0).run
def zj6:SpecT:=zr 1 (LQ.kp 0 0 (LP.q bankL)) 1 [.cells 35 7] zoh default (LQ.kp 0 5 (LP.q bankL)) 1 [.cells 35 7]
theorem zmh:zg Tryz.prog 99 (zj6).spec :=
 sK (A:=⟨[],[],[],[[0],[2]],[]⟩) zhN fM Tryz.func99 (c:=(fb Tryz.f99)) (by kernel_rfl) (Lc:=1) trivial _ _ 3 _ _ _ _ _ _ [] (by rintro a0;kernel_rfl)
def zrw (a0:Bank): Tr (Bank) :=
 (.leaf a0)
def zl0 (a0:Bank):=(zrw a0).run
def zrx:SpecT:=zr 1 (LQ.kp 0 0 (LP.q bankL)) 1 [.cells 35 7] zrw default (LQ.kp 0 6 (LP.q bankL)) 1 [.cells 35 7]
theorem zv3:zg Tryz.prog 100 (zrx).spec :=
 sK (A:=⟨[],[],[],[[0],[2]],[]⟩) zhN fM Tryz.func100 (c:=(fb Tryz.f100)) (by kernel_rfl) (Lc:=1) trivial _ _ 3 _ _ _ _ _ _ [] (by rintro a0;kernel_rfl)
noncomputable def zy16:EnvT:=⟨Tryz.prog,zac [(88,zho),(89,zh8),(125,zqa),(98,zlz)]⟩
theorem zh16:(zy16).Ok:=zf ⟨zia,zhn,ztx,zog,trivial⟩
def zqd (a0:Bank) (a1 a2:Int): Tr (Bank×Int×Int) :=
 (.bind (zeq a0) fun v1 =>
 (.guard (((!v1)=false→((z7 a1).isSome=true)∧True))
 (.ite ((!v1)||(!((z7 a1).getD default)))
  (.leaf (a0,2,a2))
  (.bind (zgz a0 a2) fun v2 =>
  (.ite (decide ((v2.2.1.Free.get v2.1) < a1))
   (.leaf (v2.2.1,7,v2.2.2))
   (.bind (zgz v2.2.1 v2.2.2) fun v3 =>
   (.bind (zdv ({ v3.2.1 with Free:=(v3.2.1.Free.set v3.1 (i64.wrap ((v3.2.1.Free.get v3.1) - a1))) })) fun v4 =>
   (.leaf ({ v4 with Bonded:=i64.wrap (v4.Bonded+a1) },0,v3.2.2)))))))))
def zg0 (a0:Bank) (a1 a2:Int):=(zqd a0 a1 a2).run
def zv5:SpecT:=zr 1 (LQ.v (Par.ofLP bankL) (LQ.k (LQ.c (.fn 125 [.ptr 0 0])) (LQ.k (LQ.c (.fn 98 [])) (LQ.v intP (Par.q intP))))) 4 [.cells 3 1] (u3 zqd) default (LQ.v (Par.ofLP bankL) (LQ.v intP (Par.q intP))) 2 [.cells 3 1]
theorem z12:zg Tryz.prog 96 (zv5).spec :=
 sK (A:=⟨[],[],[],[[1,2,3,4,8],[1,2,3,4,8,10],[8,9],[1,2,3,4,8,20],[8,9],[2,3,4,8],[4,8],[8,9]],[]⟩) zh16 fM Tryz.func96 (c:=(fb Tryz.f96)) (by kernel_rfl) (Lc:=1) trivial _ _ 5 _ _ _ _ _ _ [] (by rintro ⟨a0,a1,a2⟩;kernel_rfl)
noncomputable def zy17:EnvT:=⟨Tryz.prog,zac [(88,zho),(89,zh8),(98,zlz),(99,zj6)]⟩
theorem zh17:(zy17).Ok:=zf ⟨zia,zhn,zog,zmh,trivial⟩
def zqe (a0:Bank) (a1:Int): Tr (Bank×Int) :=
 (.bind (zeq a0) fun v1 =>
 (.guard (((!v1)=false→((z7 a1).isSome=true)∧True))
 (.ite ((!v1)||(!((z7 a1).getD default)))
  (.leaf (a0,2))
  (.bind (zdv a0) fun v2 =>
  (.ite (decide (v2.Bonded < a1))
   (.leaf (v2,7))
   (.bind (zdv v2) fun v3 =>
   (.bind (zc0 ({ v3 with Bonded:=i64.wrap (v3.Bonded - a1) })) fun v4 =>
   (.leaf ({ v4 with Waiting:=i64.wrap (v4.Waiting+a1) },0)))))))))
def zoi (a0:Bank) (a1:Int):=(zqe a0 a1).run
def zv6:SpecT:=zr 0 (LQ.v (Par.ofLP bankL) (LQ.k (LQ.c (.fn 98 [])) (LQ.k (LQ.c (.fn 99 [])) (Par.q intP)))) 4 [] (u2 zqe) default (LQ.v (Par.ofLP bankL) (Par.q intP)) 2 []
theorem z13:zg Tryz.prog 96 (zv6).spec :=
 sK (A:=⟨[],[],[],[[1,2,3,4,8],[1,2,3,4,8,10],[8,9],[1,2,3,4,8,20],[8,9],[2,3,4,8],[4,8],[8,9]],[]⟩) zh17 fM Tryz.func96 (c:=(fb Tryz.f96)) (by kernel_rfl) (Lc:=0) trivial _ _ 4 _ _ _ _ _ _ [] (by rintro ⟨a0,a1⟩;kernel_rfl)
noncomputable def zy18:EnvT:=⟨Tryz.prog,zac [(88,zho),(89,zh8),(99,zj6),(125,zqa)]⟩
theorem zh18:(zy18).Ok:=zf ⟨zia,zhn,zmh,ztx,trivial⟩
def zqf (a0:Bank) (a1 a2:Int): Tr (Bank×Int×Int) :=
 (.bind (zeq a0) fun v1 =>
 (.guard (((!v1)=false→((z7 a1).isSome=true)∧True))
 (.ite ((!v1)||(!((z7 a1).getD default)))
  (.leaf (a0,2,a2))
  (.bind (zc0 a0) fun v2 =>
  (.ite (decide (v2.Waiting < a1))
   (.leaf (v2,7,a2))
   (.bind (zc0 v2) fun v3 =>
   (.bind (zgz ({ v3 with Waiting:=i64.wrap (v3.Waiting - a1) }) a2) fun v4 =>
   (.leaf ({ v4.2.1 with Free:=(v4.2.1.Free.set v4.1 (i64.wrap ((v4.2.1.Free.get v4.1)+a1))) },0,v4.2.2)))))))))
def zg1 (a0:Bank) (a1 a2:Int):=(zqf a0 a1 a2).run
def zwa:SpecT:=zr 1 (LQ.v (Par.ofLP bankL) (LQ.k (LQ.c (.fn 99 [])) (LQ.k (LQ.c (.fn 125 [.ptr 0 0])) (LQ.v intP (Par.q intP))))) 4 [.cells 3 1] (u3 zqf) default (LQ.v (Par.ofLP bankL) (LQ.v intP (Par.q intP))) 2 [.cells 3 1]
theorem z14:zg Tryz.prog 96 (zwa).spec :=
 sK (A:=⟨[],[],[],[[1,2,3,4,8],[1,2,3,4,8,10],[8,9],[1,2,3,4,8,20],[8,9],[2,3,4,8],[4,8],[8,9]],[]⟩) zh18 fM Tryz.func96 (c:=(fb Tryz.f96)) (by kernel_rfl) (Lc:=1) trivial _ _ 5 _ _ _ _ _ _ [] (by rintro ⟨a0,a1,a2⟩;kernel_rfl)
noncomputable def zy19:EnvT:=⟨Tryz.prog,zac [(88,zho),(89,zh8),(98,zlz),(100,zrx)]⟩
theorem zh19:(zy19).Ok:=zf ⟨zia,zhn,zog,zv3,trivial⟩
def zqg (a0:Bank) (a1:Int): Tr (Bank×Int) :=
 (.bind (zeq a0) fun v1 =>
 (.guard (((!v1)=false→((z7 a1).isSome=true)∧True))
 (.ite ((!v1)||(!((z7 a1).getD default)))
  (.leaf (a0,2))
  (.bind (zdv a0) fun v2 =>
  (.ite (decide (v2.Bonded < a1))
   (.leaf (v2,7))
   (.bind (zdv v2) fun v3 =>
   (.bind (zl0 ({ v3 with Bonded:=i64.wrap (v3.Bonded - a1) })) fun v4 =>
   (.leaf ({ v4 with Burnt:=i64.wrap (v4.Burnt+a1) },0)))))))))
def zoj (a0:Bank) (a1:Int):=(zqg a0 a1).run
def zwb:SpecT:=zr 0 (LQ.v (Par.ofLP bankL) (LQ.k (LQ.c (.fn 98 [])) (LQ.k (LQ.c (.fn 100 [])) (Par.q intP)))) 4 [] (u2 zqg) default (LQ.v (Par.ofLP bankL) (Par.q intP)) 2 []
theorem z15:zg Tryz.prog 96 (zwb).spec :=
 sK (A:=⟨[],[],[],[[1,2,3,4,8],[1,2,3,4,8,10],[8,9],[1,2,3,4,8,20],[8,9],[2,3,4,8],[4,8],[8,9]],[]⟩) zh19 fM Tryz.func96 (c:=(fb Tryz.f96)) (by kernel_rfl) (Lc:=0) trivial _ _ 4 _ _ _ _ _ _ [] (by rintro ⟨a0,a1⟩;kernel_rfl)
noncomputable def zy20:EnvT:=⟨Tryz.prog,zac [(88,zho),(89,zh8),(99,zj6),(100,zrx)]⟩
theorem zh20:(zy20).Ok:=zf ⟨zia,zhn,zmh,zv3,trivial⟩
def zqh (a0:Bank) (a1:Int): Tr (Bank×Int) :=
 (.bind (zeq a0) fun v1 =>
 (.guard (((!v1)=false→((z7 a1).isSome=true)∧True))
 (.ite ((!v1)||(!((z7 a1).getD default)))
  (.leaf (a0,2))
  (.bind (zc0 a0) fun v2 =>
  (.ite (decide (v2.Waiting < a1))
   (.leaf (v2,7))
   (.bind (zc0 v2) fun v3 =>
   (.bind (zl0 ({ v3 with Waiting:=i64.wrap (v3.Waiting - a1) })) fun v4 =>
   (.leaf ({ v4 with Burnt:=i64.wrap (v4.Burnt+a1) },0)))))))))
def zol (a0:Bank) (a1:Int):=(zqh a0 a1).run
def zwc:SpecT:=zr 0 (LQ.v (Par.ofLP bankL) (LQ.k (LQ.c (.fn 99 [])) (LQ.k (LQ.c (.fn 100 [])) (Par.q intP)))) 4 [] (u2 zqh) default (LQ.v (Par.ofLP bankL) (Par.q intP)) 2 []
theorem z16:zg Tryz.prog 96 (zwc).spec :=
 sK (A:=⟨[],[],[],[[1,2,3,4,8],[1,2,3,4,8,10],[8,9],[1,2,3,4,8,20],[8,9],[2,3,4,8],[4,8],[8,9]],[]⟩) zh20 fM Tryz.func96 (c:=(fb Tryz.f96)) (by kernel_rfl) (Lc:=0) trivial _ _ 4 _ _ _ _ _ _ [] (by rintro ⟨a0,a1⟩;kernel_rfl)
def zmi:SpecT:=altT zv5 (altT zv6 (altT zwa (altT zwb (zwc))))
theorem znt:zg Tryz.prog 96 (zmi).spec:=z3w z12 (z3w z13 (z3w z14 (z3w z15 (z16))))
noncomputable def zy22:EnvT:=⟨Tryz.prog,zac [(95,zk2),(97,zus),(96,zmi)]⟩
theorem zh22:(zy22).Ok:=zf ⟨zph,zx4,znt,trivial⟩
def zut (a0:Bank) (a1 a2:Int): Tr (Bank×Int) :=
 (.bind (zgc a1) fun v1 =>
 (.ite (!v1)
  (.leaf (a0,4))
  (.guard ((zbt a1).isSome=true)
  (.guard ((zg0 a0 a2 ((zbt a1).getD default)).isSome=true)
  (.leaf ((((zg0 a0 a2 ((zbt a1).getD default)).getD default).1),((zg0 a0 a2 ((zbt a1).getD default)).getD default).2.1))))))
def znu (a0:Bank) (a1 a2:Int):=(zut a0 a1 a2).run
def zz6:SpecT:=zr 0 (LQ.v (Par.ofLP bankL) (LQ.v intP (Par.q intP))) 3 [] (u3 zut) default (LQ.v (Par.ofLP bankL) (Par.q intP)) 2 []
theorem z6p:zg Tryz.prog 62 (zz6).spec :=
 sK (A:=⟨[],[],[],[[1,2,3,6],[1,2,3,6,10],[6,7],[6,7]],[]⟩) zh22 fM Tryz.func62 (c:=(fb Tryz.f62)) (by kernel_rfl) (Lc:=0) trivial _ _ 5 _ _ _ _ _ _ [] (by rintro ⟨a0,a1,a2⟩;kernel_rfl)
noncomputable def zy23:EnvT:=⟨Tryz.prog,zac [(96,zmi)]⟩
theorem zh23:(zy23).Ok:=zf ⟨znt,trivial⟩
def zqi (a0:Bank) (a1:Int): Tr (Bank×Int) :=
 (.bind (zoi a0 a1) fun v2 =>
 (.leaf (v2.1,v2.2)))
def zg2 (a0:Bank) (a1:Int):=(zqi a0 a1).run
def zwd:SpecT:=zr 0 (LQ.v (Par.ofLP bankL) (Par.q intP)) 2 [] (u2 zqi) default (LQ.v (Par.ofLP bankL) (Par.q intP)) 2 []
theorem z17:zg Tryz.prog 63 (zwd).spec :=
 sK (A:=⟨[],[],[],[[1,2,4],[4,5]],[]⟩) zh23 fM Tryz.func63 (c:=(fb Tryz.f63)) (by kernel_rfl) (Lc:=0) trivial _ _ 4 _ _ _ _ _ _ [] (by rintro ⟨a0,a1⟩;kernel_rfl)
noncomputable def zy24:EnvT:=⟨Tryz.prog,zac [(95,zk2),(97,zus),(96,zmi)]⟩
theorem zh24:(zy24).Ok:=zf ⟨zph,zx4,znt,trivial⟩
def zxc (a0:Bank) (a1 a2:Int): Tr (Bank×Int) :=
 (.bind (zgc a1) fun v1 =>
 (.ite (!v1)
  (.leaf (a0,4))
  (.guard ((zbt a1).isSome=true)
  (.guard ((zg1 a0 a2 ((zbt a1).getD default)).isSome=true)
  (.leaf ((((zg1 a0 a2 ((zbt a1).getD default)).getD default).1),((zg1 a0 a2 ((zbt a1).getD default)).getD default).2.1))))))
def zuu (a0:Bank) (a1 a2:Int):=(zxc a0 a1 a2).run
def z2y:SpecT:=zr 0 (LQ.v (Par.ofLP bankL) (LQ.v intP (Par.q intP))) 3 [] (u3 zxc) default (LQ.v (Par.ofLP bankL) (Par.q intP)) 2 []
theorem z87:zg Tryz.prog 107 (z2y).spec :=
 sK (A:=⟨[],[],[],[[1,2,3,6],[1,2,3,6,10],[6,7],[6,7]],[]⟩) zh24 fM Tryz.func107 (c:=(fb Tryz.f107)) (by kernel_rfl) (Lc:=0) trivial _ _ 5 _ _ _ _ _ _ [] (by rintro ⟨a0,a1,a2⟩;kernel_rfl)
noncomputable def zy25:EnvT:=⟨Tryz.prog,zac [(96,zmi)]⟩
theorem zh25:(zy25).Ok:=zf ⟨znt,trivial⟩
def zuv (a0:Bank) (a1 a2:Int): Tr (Bank×Int) :=
 (.bind (zoj a0 a1) fun v4 =>
 (.ite (v4.2 != 0)
  (.leaf (a0,v4.2))
  (.bind (zol v4.1 a2) fun v9 =>
  (.ite (v9.2 != 0)
   (.leaf (a0,v9.2))
   (.leaf (v9.1,0))))))
def zry (a0:Bank) (a1 a2:Int):=(zuv a0 a1 a2).run
def zz7:SpecT:=zr 0 (LQ.v (Par.ofLP bankL) (LQ.v intP (Par.q intP))) 3 [] (u3 zuv) default (LQ.v (Par.ofLP bankL) (Par.q intP)) 2 []
theorem z6q:zg Tryz.prog 66 (zz7).spec :=
 sK (A:=⟨[],[],[],[[1,2,3,6],[2,3,6,8,9],[2,3,6,8,9,17],[6,7],[3,6,8,9],[3,6,8,9,27],[6,7],[6,7]],[]⟩) zh25 fM Tryz.func66 (c:=(fb Tryz.f66)) (by kernel_rfl) (Lc:=0) trivial _ _ 5 _ _ _ _ _ _ [] (by rintro ⟨a0,a1,a2⟩;kernel_rfl)
def zjl (a0:Int): Tr (Int) :=
 (.guard ((5:Int)≠0)
 (.leaf (if (i64.wrap (Int.tdiv a0 5)) > 1 then (i64.wrap (Int.tdiv a0 5)) else 1)))
def zik (a0:Int):=(zjl a0).run
def zpi:SpecT:=zr 0 (Par.q intP) 1 [] zjl default (Par.q intP) 1 []
theorem zwe:zg Tryz.prog 87 (zpi).spec :=
 sK (A:=⟨[],[],[],[[0],[2]],[]⟩) zhN fM Tryz.func87 (c:=(fb Tryz.f87)) (by kernel_rfl) (Lc:=0) trivial _ _ 2 _ _ _ _ _ _ [] (by rintro a0;kernel_rfl)
noncomputable def zy27:EnvT:=⟨Tryz.prog,zac [(87,zpi)]⟩
theorem zh27:(zy27).Ok:=zf ⟨zwe,trivial⟩
def zuw (a0 a1:Int): Tr (Meter) :=
 (.bind (zik a0) fun v1 =>
 (.leaf (⟨v1,i64.wrap (a1+10)⟩:Meter)))
def znv (a0 a1:Int):=(zuw a0 a1).run
def zux:SpecT:=zr 0 (LQ.v intP (Par.q intP)) 2 [] (u2 zuw) default (Par.q (Par.ofLP meterL)) 1 []
theorem zx5:zg Tryz.prog 55 (zux).spec :=
 sK (A:=⟨[],[],[],[[0,1,4],[4]],[]⟩) zh27 fM Tryz.func55 (c:=(fb Tryz.f55)) (by kernel_rfl) (Lc:=0) trivial _ _ 3 _ _ _ _ _ _ [] (by rintro ⟨a0,a1⟩;kernel_rfl)
noncomputable def zy28:EnvT:=⟨Tryz.prog,zac [(55,zux)]⟩
theorem zh28:(zy28).Ok:=zf ⟨zx5,trivial⟩
def zrz (a0:Meter) (a1 a2:Int): Tr (Meter) :=
 (.ite (decide (a2≥a0.Next))
  (.bind (znv a1 a2) fun v1 =>
  (.leaf v1))
  (.leaf a0))
def zl1 (a0:Meter) (a1 a2:Int):=(zrz a0 a1 a2).run
def zx6:SpecT:=zr 0 (LQ.v (Par.ofLP meterL) (LQ.v intP (Par.q intP))) 3 [] (u3 zrz) default (Par.q (Par.ofLP meterL)) 1 []
theorem z4p:zg Tryz.prog 67 (zx6).spec :=
 sK (A:=⟨[],[],[],[[1,2,3,6],[1,2,3,6,10],[6],[6]],[]⟩) zh28 fM Tryz.func67 (c:=(fb Tryz.f67)) (by kernel_rfl) (Lc:=0) trivial _ _ 4 _ _ _ _ _ _ [] (by rintro ⟨a0,a1,a2⟩;kernel_rfl)
def zr0 (a0:Meter) (a1:Int): Tr (Meter×Bool) :=
 (.ite (decide (a0.Left≤0))
  (.leaf (a0,false))
  (.leaf ((⟨i64.wrap (a0.Left - a1),a0.Next⟩:Meter),true)))
def zgd (a0:Meter) (a1:Int):=(zr0 a0 a1).run
def zx7:SpecT:=zr 0 (LQ.v (Par.ofLP meterL) (Par.q intP)) 2 [] (u2 zr0) default (LQ.v (Par.ofLP meterL) (Par.q boolP)) 2 []
theorem z4q:zg Tryz.prog 102 (zx7).spec :=
 sK (A:=⟨[],[],[],[[1,2,4],[1,2,4,8],[4,5],[2,4],[4,5]],[]⟩) zhN fM Tryz.func102 (c:=(fb Tryz.f102)) (by kernel_rfl) (Lc:=0) trivial _ _ 4 _ _ _ _ _ _ [] (by rintro ⟨a0,a1⟩;kernel_rfl)
end
