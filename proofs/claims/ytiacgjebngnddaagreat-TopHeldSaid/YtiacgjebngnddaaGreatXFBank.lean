/-
  The functions, each by its tree.
-/
import Derived.Test.YtiacgjebngnddaaGreatXAbC
import Derived.Test.YtiacgjebngnddaaGreatXFRatio
import Derived.Test.YtiacgjebngnddaaGreatXFacts
namespace Go.Proofs.YtiacgjebngnddaaGreat.Ab
open Go Go.RowKit
open Go.IntKind (i64 u64)
set_option maxRecDepth 100000
set_option linter.unusedVariables false
set_option linter.unusedSimpArgs false
noncomputable section
def zv7:List (List Nat):=[[0],[0,1],[0,1,3],[0,1,3,4],[0,1,2,3],[0,1,3],[0,1,3],[0]]
def ze6 (x0:Int) (x1 x2:Bank): Tr ((Int×Bank×Bank)⊕(Bank×Bank)) :=
 (.ite (decide (x0 < 4))
  (.guard ((0:Int)≤x0∧(x0:Int) < 4)
  (.leaf (.inl (i64.wrap (x0+1),x1,{ x2 with Free:=(x2.Free.set x0 100000) }))))
  (.leaf (.inr (x1,x2))))
def zov (x0:Int) (x1 x2:Bank):=zdv (fun s:Int×Bank×Bank=>(ze6 s.1 s.2.1 s.2.2).run) (x0,x1,x2)
def za7a:Ann:=⟨[],[],[],zv7,[]⟩
def zq7a:=EndD.mk (LQ.kp 0 0 (LQ.kp 1 0 (LQ.v intP (LQ.seq (LP.q bankL) (LP.q bankL))))) ⟨[0,1,3],[]⟩ [.cells 35 7,.cells 35 7]
def zari:=EndD.mk (LQ.kp 0 0 (LQ.kp 1 0 (LQ.seq (LP.q bankL) (LP.q bankL)))) ⟨[0,1],[]⟩ [.cells 35 7,.cells 35 7]
def zl7a:St→Option LR:=L1 11 4 0 zq7a (.exit 0) zari (u3 ze6)
def zs7a:=sub (fb Tryz.f86) [0,1,0,1,1]
theorem zk7a:zo (zyN).env 0 zs7a zl7a :=
 zf4 (A:=za7a) zhN fM trivial (k:=zb5 zs7a) (by kernel_rfl) rfl (by rintro ⟨x0,x1,x2⟩;kernel_rfl)
def zx1  : Tr (Bank) :=
 (.bind (zov 0 (⟨(⟨0,0,0,0⟩:(A4 Int)),0,0,0⟩:Bank) (⟨(⟨0,0,0,0⟩:(A4 Int)),0,0,0⟩:Bank)) fun v1 =>
 (.leaf v1.2))
def zvb  := (zx1 ).run
def z3r:SpecT:=zt 0 LQ.nil 0 [] (fun s=>zx1 ) default (Par.q (Par.ofLP bankL)) 1 []
theorem z99:zf Tryz.prog 86 (z3r).spec :=
 sK (A:=⟨[([0,1,0,1,1],zl7a)],[],[],zv7,[]⟩) zhN fM Tryz.func86 (c:=(fb Tryz.f86)) (by kernel_rfl) (Lc:=0) ⟨zk7a,trivial⟩ _ _ 4 _ _ _ _ _ _ [] (by rintro _;kernel_rfl)
def zv8:List (List Nat):=[[1],[1,3],[3,15,16],[3,15,16,17],[3,5,15,16],[3,15,16],[3,15,16],[2]]
def ze7 (x0:Int) (x1:(A4 Int)) (x2:Int): Tr ((Int×(A4 Int)×Int)⊕(Int)) :=
 (.ite (decide (x2 < 4))
  (.guard ((0:Int)≤x2∧(x2:Int) < 4)
  (.leaf (.inl (i64.wrap (x0+(x1.get x2)),x1,i64.wrap (x2+1)))))
  (.leaf (.inr x0)))
def zow (x0:Int) (x1:(A4 Int)) (x2:Int):=zdv (fun s:Int×(A4 Int)×Int=>(ze7 s.1 s.2.1 s.2.2).run) (x0,x1,x2)
def za8a:Ann:=⟨[],[],[],zv8,[]⟩
def zq8a:=EndD.mk (LQ.v intP (LQ.seq (Par.q (Par.ofLP (a4L (LP.one intP)))) (Par.q intP))) ⟨[3,15,16],[]⟩ []
def zarj:=EndD.mk (Par.q intP) ⟨[3],[]⟩ []
def zl8a:St→Option LR:=L1 24 3 0 zq8a (.exit 0) zarj (u3 ze7)
def zs8a:=sub (fb Tryz.f122) [0,1,0,1,1]
theorem zk8a:zo (zyN).env 0 zs8a zl8a :=
 zf4 (A:=za8a) zhN fM trivial (k:=zb5 zs8a) (by kernel_rfl) rfl (by rintro ⟨x0,x1,x2⟩;kernel_rfl)
def zx2 (a0:Bank): Tr (Int) :=
 (.bind (zow (i64.wrap ((i64.wrap (a0.Bonded+a0.Waiting))+a0.Burnt)) a0.Free 0) fun v1 =>
 (.leaf v1))
def zvc (a0:Bank):=(zx2 a0).run
def z3s:SpecT:=zt 0 (Par.q (Par.ofLP bankL)) 1 [] zx2 default (Par.q intP) 1 []
theorem zaaa:zf Tryz.prog 122 (z3s).spec :=
 sK (A:=⟨[([0,1,0,1,1],zl8a)],[],[],zv8,[]⟩) zhN fM Tryz.func122 (c:=(fb Tryz.f122)) (by kernel_rfl) (Lc:=0) ⟨zk8a,trivial⟩ _ _ 3 _ _ _ _ _ _ [] (by rintro a0;kernel_rfl)
def zv9:List (List Nat):=[[1],[1,14,15,16],[1,14,15,16,17],[1,4,14,15,16],[1,14,15,16,25],[2],[1,14,15,16],[2]]
noncomputable def zy9:EnvT:=⟨Tryz.prog,zad [(122,z3s)]⟩
theorem zh9:(zy9).Ok:=ze ⟨zaaa,trivial⟩
def zha (x0 x1:Int) (x2:Bank) (x3:(List Int)): Tr ((Int×Int×Bank×(List Int))⊕((Bool)⊕(Bank))) :=
 (.ite (decide (x1 < x0))
  (.guard ((0:Int)≤x1∧x1 < ((Sl.len (.ints x3):Nat):Int))
  (.ite ((decide ((x3.getD x1.toNat 0) < 0))||(decide ((x3.getD x1.toNat 0) > 400000)))
   (.leaf (.inr (.inl false)))
   (.leaf (.inl (x0,i64.wrap (x1+1),x2,x3)))))
  (.leaf (.inr (.inr x2))))
def zsg (x0 x1:Int) (x2:Bank) (x3:(List Int)):=zdv (fun s:Int×Int×Bank×(List Int)=>(zha s.1 s.2.1 s.2.2.1 s.2.2.2).run) (x0,x1,x2,x3)
def za9a:Ann:=⟨[],[],[],zv9,[]⟩
def zq9a:=EndD.mk (LQ.kp 0 0 (LQ.k (LQ.c (.own 1)) (LQ.v intP (LQ.v intP (LQ.seq (LP.q bankL) (Par.q zf5)))))) ⟨[1,14,15,16],[.nilown 14 3 (.ints [])]⟩ [.cells 35 7,.rows 3]
def zark:=EndD.mk (Par.q boolP) ⟨[2],[]⟩ []
def zarl:=EndD.mk (LQ.kp 0 0 (LP.q bankL)) ⟨[1],[]⟩ [.cells 35 7]
def zl9a:St→Option LR:=L2 30 5 0 zq9a .ret zark (.exit 0) zarl (u4 zha)
def zs9a:=sub (fb Tryz.f88) [0,1,0,1]
theorem zk9a:zo (zy9).env 0 zs9a zl9a :=
 zpm (A:=za9a) zh9 fM trivial (k:=zb5 zs9a) (by kernel_rfl) rfl rfl (by rintro ⟨x0,x1,x2,x3⟩;kernel_rfl)
def zvd (a0:Bank): Tr (Bool) :=
 (.guard ((Sl.len (.ints [a0.Free.x0,a0.Free.x1,a0.Free.x2,a0.Free.x3])+Sl.len (.ints [a0.Bonded,a0.Waiting,a0.Burnt]))*8≤140737488355328)
 (.guard (0 < Sl.len (.ints [a0.Bonded,a0.Waiting,a0.Burnt]))
 (.two (zsg ((([a0.Free.x0,a0.Free.x1,a0.Free.x2,a0.Free.x3]++[a0.Bonded,a0.Waiting,a0.Burnt]).length:Nat):Int) 0 a0 ([a0.Free.x0,a0.Free.x1,a0.Free.x2,a0.Free.x3]++[a0.Bonded,a0.Waiting,a0.Burnt])) (fun v1 =>
  (.leaf v1)) (fun v2 =>
  (.bind (zvc v2) fun v3 =>
  (.leaf (v3==400000)))))))
def zey (a0:Bank):=(zvd a0).run
def zhw:SpecT:=zt 0 (Par.q (Par.ofLP bankL)) 1 [] zvd default (Par.q boolP) 1 []
theorem zim:zf Tryz.prog 88 (zhw).spec :=
 sK (A:=⟨[([0,1,0,1],zl9a)],[],[],zv9,[]⟩) zh9 fM Tryz.func88 (c:=(fb Tryz.f88)) (by kernel_rfl) (Lc:=0) ⟨zk9a,trivial⟩ _ _ 5 _ _ _ _ _ _ [] (by rintro a0;kernel_rfl)
def zhp (a0:Int): Tr (Bool) :=
 (.leaf ((decide (a0≥0))&&(decide (a0 < 4))))
def zgn (a0:Int):=(zhp a0).run
def zlj:SpecT:=zt 0 (Par.q intP) 1 [] zhp default (Par.q boolP) 1 []
theorem zpx:zf Tryz.prog 95 (zlj).spec :=
 sK (A:=⟨[],[],[],[[0],[2]],[]⟩) zhN fM Tryz.func95 (c:=(fb Tryz.f95)) (by kernel_rfl) (Lc:=0) trivial _ _ 2 _ _ _ _ _ _ [] (by rintro a0;kernel_rfl)
def zqt (a0:Bank) (a1:Int): Tr (Int×Bank×Int) :=
 (.guard ((0:Int)≤a1∧(a1:Int) < 4)
 (.leaf (a1,a0,a1)))
def zhb (a0:Bank) (a1:Int):=(zqt a0 a1).run
def zqu:SpecT:=zt 2 (LQ.kp 0 0 (LQ.kp 1 0 (LQ.seq (LP.q bankL) (Par.q intP)))) 2 [.cells 35 7,.cells 3 1] (u2 zqt) default (LQ.seq (LQ.pix1 0 0 4 1 0) (LQ.seq (LP.q bankL) (Par.q intP))) 1 [.cells 35 7,.cells 3 1]
theorem zug:zf Tryz.prog 125 (zqu).spec :=
 sK (A:=⟨[],[],[],[[0,1],[3]],[]⟩) zhN fM Tryz.func125 (c:=(fb Tryz.f125)) (by kernel_rfl) (Lc:=2) trivial _ _ 4 _ _ _ _ _ _ [] (by rintro ⟨a0,a1⟩;kernel_rfl)
def zqv (a0:Int): Tr (Int) :=
 (.leaf a0)
def zbv (a0:Int):=(zqv a0).run
def zve:SpecT:=zt 0 (Par.q intP) 1 [] zqv default (LQ.k (LQ.c (.fn 125 [.ptr 0 0])) (Par.q intP)) 1 [.cells 3 1]
theorem zyr:zf Tryz.prog 97 (zve).spec :=
 sK (A:=⟨[],[],[],[[1],[2]],[]⟩) zhN fM Tryz.func97 (c:=(fb Tryz.f97)) (by kernel_rfl) (Lc:=0) trivial _ _ 3 _ _ _ _ _ _ [] (by rintro a0;kernel_rfl)
def zqw (a0:Bank): Tr (Bank) :=
 (.leaf a0)
def zd6 (a0:Bank):=(zqw a0).run
def zmh:SpecT:=zt 1 (LQ.kp 0 0 (LP.q bankL)) 1 [.cells 35 7] zqw default (LQ.kp 0 4 (LP.q bankL)) 1 [.cells 35 7]
theorem zox:zf Tryz.prog 98 (zmh).spec :=
 sK (A:=⟨[],[],[],[[0],[2]],[]⟩) zhN fM Tryz.func98 (c:=(fb Tryz.f98)) (by kernel_rfl) (Lc:=1) trivial _ _ 3 _ _ _ _ _ _ [] (by rintro a0;kernel_rfl)
def zoy (a0:Bank): Tr (Bank) :=
 (.leaf a0)
def zc7 (a0:Bank):=(zoy a0).run
def zkk:SpecT:=zt 1 (LQ.kp 0 0 (LP.q bankL)) 1 [.cells 35 7] zoy default (LQ.kp 0 5 (LP.q bankL)) 1 [.cells 35 7]
theorem zm0:zf Tryz.prog 99 (zkk).spec :=
 sK (A:=⟨[],[],[],[[0],[2]],[]⟩) zhN fM Tryz.func99 (c:=(fb Tryz.f99)) (by kernel_rfl) (Lc:=1) trivial _ _ 3 _ _ _ _ _ _ [] (by rintro a0;kernel_rfl)
def zsh (a0:Bank): Tr (Bank) :=
 (.leaf a0)
def zmi (a0:Bank):=(zsh a0).run
def zsi:SpecT:=zt 1 (LQ.kp 0 0 (LP.q bankL)) 1 [.cells 35 7] zsh default (LQ.kp 0 6 (LP.q bankL)) 1 [.cells 35 7]
theorem zwu:zf Tryz.prog 100 (zsi).spec :=
 sK (A:=⟨[],[],[],[[0],[2]],[]⟩) zhN fM Tryz.func100 (c:=(fb Tryz.f100)) (by kernel_rfl) (Lc:=1) trivial _ _ 3 _ _ _ _ _ _ [] (by rintro a0;kernel_rfl)
noncomputable def zy16:EnvT:=⟨Tryz.prog,zad [(88,zhw),(89,zil),(125,zqu),(98,zmh)]⟩
theorem zh16:(zy16).Ok:=ze ⟨zim,zhv,zug,zox,trivial⟩
def zqx (a0:Bank) (a1 a2:Int): Tr (Bank×Int×Int) :=
 (.bind (zey a0) fun v1 =>
 (.guard (((!v1)=false→((z7 a1).isSome=true)∧True))
 (.ite ((!v1)||(!((z7 a1).getD default)))
  (.leaf (a0,2,a2))
  (.bind (zhb a0 a2) fun v2 =>
  (.ite (decide ((v2.2.1.Free.get v2.1) < a1))
   (.leaf (v2.2.1,7,v2.2.2))
   (.bind (zhb v2.2.1 v2.2.2) fun v3 =>
   (.bind (zd6 ({ v3.2.1 with Free:=(v3.2.1.Free.set v3.1 (i64.wrap ((v3.2.1.Free.get v3.1) - a1))) })) fun v4 =>
   (.leaf ({ v4 with Bonded:=i64.wrap (v4.Bonded+a1) },0,v3.2.2)))))))))
def zhc (a0:Bank) (a1 a2:Int):=(zqx a0 a1 a2).run
def zwv:SpecT:=zt 1 (LQ.v (Par.ofLP bankL) (LQ.k (LQ.c (.fn 125 [.ptr 0 0])) (LQ.k (LQ.c (.fn 98 [])) (LQ.v intP (Par.q intP))))) 4 [.cells 3 1] (u3 zqx) default (LQ.v (Par.ofLP bankL) (LQ.v intP (Par.q intP))) 2 [.cells 3 1]
theorem z2v:zf Tryz.prog 96 (zwv).spec :=
 sK (A:=⟨[],[],[],[[1,2,3,4,8],[1,2,3,4,8,10],[8,9],[1,2,3,4,8,20],[8,9],[2,3,4,8],[4,8],[8,9]],[]⟩) zh16 fM Tryz.func96 (c:=(fb Tryz.f96)) (by kernel_rfl) (Lc:=1) trivial _ _ 5 _ _ _ _ _ _ [] (by rintro ⟨a0,a1,a2⟩;kernel_rfl)
noncomputable def zy17:EnvT:=⟨Tryz.prog,zad [(88,zhw),(89,zil),(98,zmh),(99,zkk)]⟩
theorem zh17:(zy17).Ok:=ze ⟨zim,zhv,zox,zm0,trivial⟩
def zqy (a0:Bank) (a1:Int): Tr (Bank×Int) :=
 (.bind (zey a0) fun v1 =>
 (.guard (((!v1)=false→((z7 a1).isSome=true)∧True))
 (.ite ((!v1)||(!((z7 a1).getD default)))
  (.leaf (a0,2))
  (.bind (zd6 a0) fun v2 =>
  (.ite (decide (v2.Bonded < a1))
   (.leaf (v2,7))
   (.bind (zd6 v2) fun v3 =>
   (.bind (zc7 ({ v3 with Bonded:=i64.wrap (v3.Bonded - a1) })) fun v4 =>
   (.leaf ({ v4 with Waiting:=i64.wrap (v4.Waiting+a1) },0)))))))))
def zoz (a0:Bank) (a1:Int):=(zqy a0 a1).run
def zww:SpecT:=zt 0 (LQ.v (Par.ofLP bankL) (LQ.k (LQ.c (.fn 98 [])) (LQ.k (LQ.c (.fn 99 [])) (Par.q intP)))) 4 [] (u2 zqy) default (LQ.v (Par.ofLP bankL) (Par.q intP)) 2 []
theorem z2w:zf Tryz.prog 96 (zww).spec :=
 sK (A:=⟨[],[],[],[[1,2,3,4,8],[1,2,3,4,8,10],[8,9],[1,2,3,4,8,20],[8,9],[2,3,4,8],[4,8],[8,9]],[]⟩) zh17 fM Tryz.func96 (c:=(fb Tryz.f96)) (by kernel_rfl) (Lc:=0) trivial _ _ 4 _ _ _ _ _ _ [] (by rintro ⟨a0,a1⟩;kernel_rfl)
noncomputable def zy18:EnvT:=⟨Tryz.prog,zad [(88,zhw),(89,zil),(99,zkk),(125,zqu)]⟩
theorem zh18:(zy18).Ok:=ze ⟨zim,zhv,zm0,zug,trivial⟩
def zqz (a0:Bank) (a1 a2:Int): Tr (Bank×Int×Int) :=
 (.bind (zey a0) fun v1 =>
 (.guard (((!v1)=false→((z7 a1).isSome=true)∧True))
 (.ite ((!v1)||(!((z7 a1).getD default)))
  (.leaf (a0,2,a2))
  (.bind (zc7 a0) fun v2 =>
  (.ite (decide (v2.Waiting < a1))
   (.leaf (v2,7,a2))
   (.bind (zc7 v2) fun v3 =>
   (.bind (zhb ({ v3 with Waiting:=i64.wrap (v3.Waiting - a1) }) a2) fun v4 =>
   (.leaf ({ v4.2.1 with Free:=(v4.2.1.Free.set v4.1 (i64.wrap ((v4.2.1.Free.get v4.1)+a1))) },0,v4.2.2)))))))))
def zhd (a0:Bank) (a1 a2:Int):=(zqz a0 a1 a2).run
def zwx:SpecT:=zt 1 (LQ.v (Par.ofLP bankL) (LQ.k (LQ.c (.fn 99 [])) (LQ.k (LQ.c (.fn 125 [.ptr 0 0])) (LQ.v intP (Par.q intP))))) 4 [.cells 3 1] (u3 zqz) default (LQ.v (Par.ofLP bankL) (LQ.v intP (Par.q intP))) 2 [.cells 3 1]
theorem z2x:zf Tryz.prog 96 (zwx).spec :=
 sK (A:=⟨[],[],[],[[1,2,3,4,8],[1,2,3,4,8,10],[8,9],[1,2,3,4,8,20],[8,9],[2,3,4,8],[4,8],[8,9]],[]⟩) zh18 fM Tryz.func96 (c:=(fb Tryz.f96)) (by kernel_rfl) (Lc:=1) trivial _ _ 5 _ _ _ _ _ _ [] (by rintro ⟨a0,a1,a2⟩;kernel_rfl)
noncomputable def zy19:EnvT:=⟨Tryz.prog,zad [(88,zhw),(89,zil),(98,zmh),(100,zsi)]⟩
theorem zh19:(zy19).Ok:=ze ⟨zim,zhv,zox,zwu,trivial⟩
def zq0 (a0:Bank) (a1:Int): Tr (Bank×Int) :=
 (.bind (zey a0) fun v1 =>
 (.guard (((!v1)=false→((z7 a1).isSome=true)∧True))
 (.ite ((!v1)||(!((z7 a1).getD default)))
  (.leaf (a0,2))
  (.bind (zd6 a0) fun v2 =>
  (.ite (decide (v2.Bonded < a1))
   (.leaf (v2,7))
   (.bind (zd6 v2) fun v3 =>
   (.bind (zmi ({ v3 with Bonded:=i64.wrap (v3.Bonded - a1) })) fun v4 =>
   (.leaf ({ v4 with Burnt:=i64.wrap (v4.Burnt+a1) },0)))))))))
def zo0 (a0:Bank) (a1:Int):=(zq0 a0 a1).run
def zwy:SpecT:=zt 0 (LQ.v (Par.ofLP bankL) (LQ.k (LQ.c (.fn 98 [])) (LQ.k (LQ.c (.fn 100 [])) (Par.q intP)))) 4 [] (u2 zq0) default (LQ.v (Par.ofLP bankL) (Par.q intP)) 2 []
theorem z2y:zf Tryz.prog 96 (zwy).spec :=
 sK (A:=⟨[],[],[],[[1,2,3,4,8],[1,2,3,4,8,10],[8,9],[1,2,3,4,8,20],[8,9],[2,3,4,8],[4,8],[8,9]],[]⟩) zh19 fM Tryz.func96 (c:=(fb Tryz.f96)) (by kernel_rfl) (Lc:=0) trivial _ _ 4 _ _ _ _ _ _ [] (by rintro ⟨a0,a1⟩;kernel_rfl)
noncomputable def zy20:EnvT:=⟨Tryz.prog,zad [(88,zhw),(89,zil),(99,zkk),(100,zsi)]⟩
theorem zh20:(zy20).Ok:=ze ⟨zim,zhv,zm0,zwu,trivial⟩
def zq1 (a0:Bank) (a1:Int): Tr (Bank×Int) :=
 (.bind (zey a0) fun v1 =>
 (.guard (((!v1)=false→((z7 a1).isSome=true)∧True))
 (.ite ((!v1)||(!((z7 a1).getD default)))
  (.leaf (a0,2))
  (.bind (zc7 a0) fun v2 =>
  (.ite (decide (v2.Waiting < a1))
   (.leaf (v2,7))
   (.bind (zc7 v2) fun v3 =>
   (.bind (zmi ({ v3 with Waiting:=i64.wrap (v3.Waiting - a1) })) fun v4 =>
   (.leaf ({ v4 with Burnt:=i64.wrap (v4.Burnt+a1) },0)))))))))
def zo1 (a0:Bank) (a1:Int):=(zq1 a0 a1).run
def zwz:SpecT:=zt 0 (LQ.v (Par.ofLP bankL) (LQ.k (LQ.c (.fn 99 [])) (LQ.k (LQ.c (.fn 100 [])) (Par.q intP)))) 4 [] (u2 zq1) default (LQ.v (Par.ofLP bankL) (Par.q intP)) 2 []
theorem z2z:zf Tryz.prog 96 (zwz).spec :=
 sK (A:=⟨[],[],[],[[1,2,3,4,8],[1,2,3,4,8,10],[8,9],[1,2,3,4,8,20],[8,9],[2,3,4,8],[4,8],[8,9]],[]⟩) zh20 fM Tryz.func96 (c:=(fb Tryz.f96)) (by kernel_rfl) (Lc:=0) trivial _ _ 4 _ _ _ _ _ _ [] (by rintro ⟨a0,a1⟩;kernel_rfl)
def zm1:SpecT:=altT zwv (altT zww (altT zwx (altT zwy (zwz))))
theorem zod:zf Tryz.prog 96 (zm1).spec:=z4w z2v (z4w z2w (z4w z2x (z4w z2y (z2z))))
noncomputable def zy22:EnvT:=⟨Tryz.prog,zad [(95,zlj),(97,zve),(96,zm1)]⟩
theorem zh22:(zy22).Ok:=ze ⟨zpx,zyr,zod,trivial⟩
def zvf (a0:Bank) (a1 a2:Int): Tr (Bank×Int) :=
 (.bind (zgn a1) fun v1 =>
 (.ite (!v1)
  (.leaf (a0,4))
  (.guard ((zbv a1).isSome=true)
  (.guard ((zhc a0 a2 ((zbv a1).getD default)).isSome=true)
  (.leaf ((((zhc a0 a2 ((zbv a1).getD default)).getD default).1),((zhc a0 a2 ((zbv a1).getD default)).getD default).2.1))))))
def zoe (a0:Bank) (a1 a2:Int):=(zvf a0 a1 a2).run
def z0w:SpecT:=zt 0 (LQ.v (Par.ofLP bankL) (LQ.v intP (Par.q intP))) 3 [] (u3 zvf) default (LQ.v (Par.ofLP bankL) (Par.q intP)) 2 []
theorem z7o:zf Tryz.prog 62 (z0w).spec :=
 sK (A:=⟨[],[],[],[[1,2,3,6],[1,2,3,6,10],[6,7],[6,7]],[]⟩) zh22 fM Tryz.func62 (c:=(fb Tryz.f62)) (by kernel_rfl) (Lc:=0) trivial _ _ 5 _ _ _ _ _ _ [] (by rintro ⟨a0,a1,a2⟩;kernel_rfl)
noncomputable def zy23:EnvT:=⟨Tryz.prog,zad [(96,zm1)]⟩
theorem zh23:(zy23).Ok:=ze ⟨zod,trivial⟩
def zq2 (a0:Bank) (a1:Int): Tr (Bank×Int) :=
 (.bind (zoz a0 a1) fun v2 =>
 (.leaf (v2.1,v2.2)))
def zhe (a0:Bank) (a1:Int):=(zq2 a0 a1).run
def zw0:SpecT:=zt 0 (LQ.v (Par.ofLP bankL) (Par.q intP)) 2 [] (u2 zq2) default (LQ.v (Par.ofLP bankL) (Par.q intP)) 2 []
theorem z20:zf Tryz.prog 63 (zw0).spec :=
 sK (A:=⟨[],[],[],[[1,2,4],[4,5]],[]⟩) zh23 fM Tryz.func63 (c:=(fb Tryz.f63)) (by kernel_rfl) (Lc:=0) trivial _ _ 4 _ _ _ _ _ _ [] (by rintro ⟨a0,a1⟩;kernel_rfl)
noncomputable def zy24:EnvT:=⟨Tryz.prog,zad [(95,zlj),(97,zve),(96,zm1)]⟩
theorem zh24:(zy24).Ok:=ze ⟨zpx,zyr,zod,trivial⟩
def zx3 (a0:Bank) (a1 a2:Int): Tr (Bank×Int) :=
 (.bind (zgn a1) fun v1 =>
 (.ite (!v1)
  (.leaf (a0,4))
  (.guard ((zbv a1).isSome=true)
  (.guard ((zhd a0 a2 ((zbv a1).getD default)).isSome=true)
  (.leaf ((((zhd a0 a2 ((zbv a1).getD default)).getD default).1),((zhd a0 a2 ((zbv a1).getD default)).getD default).2.1))))))
def zvg (a0:Bank) (a1 a2:Int):=(zx3 a0 a1 a2).run
def z3t:SpecT:=zt 0 (LQ.v (Par.ofLP bankL) (LQ.v intP (Par.q intP))) 3 [] (u3 zx3) default (LQ.v (Par.ofLP bankL) (Par.q intP)) 2 []
theorem zaab:zf Tryz.prog 107 (z3t).spec :=
 sK (A:=⟨[],[],[],[[1,2,3,6],[1,2,3,6,10],[6,7],[6,7]],[]⟩) zh24 fM Tryz.func107 (c:=(fb Tryz.f107)) (by kernel_rfl) (Lc:=0) trivial _ _ 5 _ _ _ _ _ _ [] (by rintro ⟨a0,a1,a2⟩;kernel_rfl)
noncomputable def zy25:EnvT:=⟨Tryz.prog,zad [(96,zm1)]⟩
theorem zh25:(zy25).Ok:=ze ⟨zod,trivial⟩
def zvh (a0:Bank) (a1 a2:Int): Tr (Bank×Int) :=
 (.bind (zo0 a0 a1) fun v4 =>
 (.ite (v4.2 != 0)
  (.leaf (a0,v4.2))
  (.bind (zo1 v4.1 a2) fun v9 =>
  (.ite (v9.2 != 0)
   (.leaf (a0,v9.2))
   (.leaf (v9.1,0))))))
def zsj (a0:Bank) (a1 a2:Int):=(zvh a0 a1 a2).run
def z0x:SpecT:=zt 0 (LQ.v (Par.ofLP bankL) (LQ.v intP (Par.q intP))) 3 [] (u3 zvh) default (LQ.v (Par.ofLP bankL) (Par.q intP)) 2 []
theorem z7p:zf Tryz.prog 66 (z0x).spec :=
 sK (A:=⟨[],[],[],[[1,2,3,6],[2,3,6,8,9],[2,3,6,8,9,17],[6,7],[3,6,8,9],[3,6,8,9,27],[6,7],[6,7]],[]⟩) zh25 fM Tryz.func66 (c:=(fb Tryz.f66)) (by kernel_rfl) (Lc:=0) trivial _ _ 5 _ _ _ _ _ _ [] (by rintro ⟨a0,a1,a2⟩;kernel_rfl)
def zjy (a0:Int): Tr (Int) :=
 (.guard ((5:Int)≠0)
 (.leaf (if (i64.wrap (Int.tdiv a0 5)) > 1 then (i64.wrap (Int.tdiv a0 5)) else 1)))
def ziv (a0:Int):=(zjy a0).run
def zpy:SpecT:=zt 0 (Par.q intP) 1 [] zjy default (Par.q intP) 1 []
theorem zw1:zf Tryz.prog 87 (zpy).spec :=
 sK (A:=⟨[],[],[],[[0],[2]],[]⟩) zhN fM Tryz.func87 (c:=(fb Tryz.f87)) (by kernel_rfl) (Lc:=0) trivial _ _ 2 _ _ _ _ _ _ [] (by rintro a0;kernel_rfl)
noncomputable def zy27:EnvT:=⟨Tryz.prog,zad [(87,zpy)]⟩
theorem zh27:(zy27).Ok:=ze ⟨zw1,trivial⟩
def zvi (a0 a1:Int): Tr (Meter) :=
 (.bind (ziv a0) fun v1 =>
 (.leaf (⟨v1,i64.wrap (a1+10)⟩:Meter)))
def zof (a0 a1:Int):=(zvi a0 a1).run
def zvj:SpecT:=zt 0 (LQ.v intP (Par.q intP)) 2 [] (u2 zvi) default (Par.q (Par.ofLP meterL)) 1 []
theorem zys:zf Tryz.prog 55 (zvj).spec :=
 sK (A:=⟨[],[],[],[[0,1,4],[4]],[]⟩) zh27 fM Tryz.func55 (c:=(fb Tryz.f55)) (by kernel_rfl) (Lc:=0) trivial _ _ 3 _ _ _ _ _ _ [] (by rintro ⟨a0,a1⟩;kernel_rfl)
noncomputable def zy28:EnvT:=⟨Tryz.prog,zad [(55,zvj)]⟩
theorem zh28:(zy28).Ok:=ze ⟨zys,trivial⟩
def zsk (a0:Meter) (a1 a2:Int): Tr (Meter) :=
 (.ite (decide (a2≥a0.Next))
  (.bind (zof a1 a2) fun v1 =>
  (.leaf v1))
  (.leaf a0))
def zmj (a0:Meter) (a1 a2:Int):=(zsk a0 a1 a2).run
def zyt:SpecT:=zt 0 (LQ.v (Par.ofLP meterL) (LQ.v intP (Par.q intP))) 3 [] (u3 zsk) default (Par.q (Par.ofLP meterL)) 1 []
theorem z5p:zf Tryz.prog 67 (zyt).spec :=
 sK (A:=⟨[],[],[],[[1,2,3,6],[1,2,3,6,10],[6],[6]],[]⟩) zh28 fM Tryz.func67 (c:=(fb Tryz.f67)) (by kernel_rfl) (Lc:=0) trivial _ _ 4 _ _ _ _ _ _ [] (by rintro ⟨a0,a1,a2⟩;kernel_rfl)
def zsl (a0:Meter) (a1:Int): Tr (Meter×Bool) :=
 (.ite (decide (a0.Left≤0))
  (.leaf (a0,false))
  (.leaf ((⟨i64.wrap (a0.Left - a1),a0.Next⟩:Meter),true)))
def zgo (a0:Meter) (a1:Int):=(zsl a0 a1).run
def zyu:SpecT:=zt 0 (LQ.v (Par.ofLP meterL) (Par.q intP)) 2 [] (u2 zsl) default (LQ.v (Par.ofLP meterL) (Par.q boolP)) 2 []
theorem z5q:zf Tryz.prog 102 (zyu).spec :=
 sK (A:=⟨[],[],[],[[1,2,4],[1,2,4,8],[4,5],[2,4],[4,5]],[]⟩) zhN fM Tryz.func102 (c:=(fb Tryz.f102)) (by kernel_rfl) (Lc:=0) trivial _ _ 4 _ _ _ _ _ _ [] (by rintro ⟨a0,a1⟩;kernel_rfl)
end
