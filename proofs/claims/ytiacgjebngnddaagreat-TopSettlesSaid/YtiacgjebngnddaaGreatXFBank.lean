/-
  The functions, each by its tree.
-/
import Derived.Test.YtiacgjebngnddaaGreatXAbC
import Derived.Test.YtiacgjebngnddaaGreatXFRatio
import Derived.Test.YtiacgjebngnddaaGreatXFacts
namespace Go.Proofs.YtiacgjebngnddaaGreat.Ab
open Go Go.RowKit
open Go.IntKind (i64 u64)
set_option maxRecDepth 100000
set_option linter.unusedVariables false
set_option linter.unusedSimpArgs false
noncomputable section
def zv7:List (List Nat):=[[0],[0,1],[0,1,3],[0,1,3,4],[0,1,2,3],[0,1,3],[0,1,3],[0]]
def zfd (x0:Int) (x1 x2:Bank): Tr ((Int×Bank×Bank)⊕(Bank×Bank)) :=
 (.ite (decide (x0 < 4))
  (.guard ((0:Int)≤x0∧(x0:Int) < 4)
  (.leaf (.inl (i64.wrap (x0+1),x1,{ x2 with Free:=(x2.Free.set x0 100000) }))))
  (.leaf (.inr (x1,x2))))
def zpk (x0:Int) (x1 x2:Bank):=zdm (fun s:Int×Bank×Bank=>(zfd s.1 s.2.1 s.2.2).run) (x0,x1,x2)
def za7a:Ann:=⟨[],[],[],zv7,[]⟩
def zq7a:=EndD.mk (LQ.kp 0 0 (LQ.kp 1 0 (LQ.v intP (LQ.seq (LP.q bankL) (LP.q bankL))))) ⟨[0,1,3],[]⟩ [.cells 35 7,.cells 35 7]
def zatz:=EndD.mk (LQ.kp 0 0 (LQ.kp 1 0 (LQ.seq (LP.q bankL) (LP.q bankL)))) ⟨[0,1],[]⟩ [.cells 35 7,.cells 35 7]
def zl7a:St→Option LR:=L1 11 4 0 zq7a (.exit 0) zatz (u3 zfd)
def zs7a:=sub (fb Tryz.f86) [0,1,0,1,1]
theorem zk7a:zt (zyN).env 0 zs7a zl7a :=
 zht (A:=za7a) zhN fM trivial (k:=zcd zs7a) (by kernel_rfl) rfl (by rintro ⟨x0,x1,x2⟩;kernel_rfl)
def zyu  : Tr (Bank) :=
 (.bind (zpk 0 (⟨(⟨0,0,0,0⟩:(A4 Int)),0,0,0⟩:Bank) (⟨(⟨0,0,0,0⟩:(A4 Int)),0,0,0⟩:Bank)) fun v1 =>
 (.leaf v1.2))
def zv2  := (zyu ).run
def z4y:SpecT:=zw 0 LQ.nil 0 [] (fun s=>zyu ) default (Par.q (Par.ofLP bankL)) 1 []
theorem zabz:zg Tryz.prog 86 (z4y).spec :=
 sK (A:=⟨[([0,1,0,1,1],zl7a)],[],[],zv7,[]⟩) zhN fM Tryz.func86 (c:=(fb Tryz.f86)) (by kernel_rfl) (Lc:=0) ⟨zk7a,trivial⟩ _ _ 4 _ _ _ _ _ _ [] (by rintro _;kernel_rfl)
def zv8:List (List Nat):=[[1],[1,3],[3,15,16],[3,15,16,17],[3,5,15,16],[3,15,16],[3,15,16],[2]]
def zfe (x0:Int) (x1:(A4 Int)) (x2:Int): Tr ((Int×(A4 Int)×Int)⊕(Int)) :=
 (.ite (decide (x2 < 4))
  (.guard ((0:Int)≤x2∧(x2:Int) < 4)
  (.leaf (.inl (i64.wrap (x0+(x1.get x2)),x1,i64.wrap (x2+1)))))
  (.leaf (.inr x0)))
def zpl (x0:Int) (x1:(A4 Int)) (x2:Int):=zdm (fun s:Int×(A4 Int)×Int=>(zfe s.1 s.2.1 s.2.2).run) (x0,x1,x2)
def za8a:Ann:=⟨[],[],[],zv8,[]⟩
def zq8a:=EndD.mk (LQ.v intP (LQ.seq (Par.q (Par.ofLP (a4L (LP.one intP)))) (Par.q intP))) ⟨[3,15,16],[]⟩ []
def zat0:=EndD.mk (Par.q intP) ⟨[3],[]⟩ []
def zl8a:St→Option LR:=L1 24 3 0 zq8a (.exit 0) zat0 (u3 zfe)
def zs8a:=sub (fb Tryz.f122) [0,1,0,1,1]
theorem zk8a:zt (zyN).env 0 zs8a zl8a :=
 zht (A:=za8a) zhN fM trivial (k:=zcd zs8a) (by kernel_rfl) rfl (by rintro ⟨x0,x1,x2⟩;kernel_rfl)
def zyv (a0:Bank): Tr (Int) :=
 (.bind (zpl (i64.wrap ((i64.wrap (a0.Bonded+a0.Waiting))+a0.Burnt)) a0.Free 0) fun v1 =>
 (.leaf v1))
def zv3 (a0:Bank):=(zyv a0).run
def z4z:SpecT:=zw 0 (Par.q (Par.ofLP bankL)) 1 [] zyv default (Par.q intP) 1 []
theorem zab0:zg Tryz.prog 122 (z4z).spec :=
 sK (A:=⟨[([0,1,0,1,1],zl8a)],[],[],zv8,[]⟩) zhN fM Tryz.func122 (c:=(fb Tryz.f122)) (by kernel_rfl) (Lc:=0) ⟨zk8a,trivial⟩ _ _ 3 _ _ _ _ _ _ [] (by rintro a0;kernel_rfl)
def zv9:List (List Nat):=[[1],[1,14,15,16],[1,14,15,16,17],[1,4,14,15,16],[1,14,15,16,25],[2],[1,14,15,16],[2]]
noncomputable def zy9:EnvT:=⟨Tryz.prog,zah [(122,z4z)]⟩
theorem zh9:(zy9).Ok:=zf ⟨zab0,trivial⟩
def zhu (x0 x1:Int) (x2:Bank) (x3:(List Int)): Tr ((Int×Int×Bank×(List Int))⊕((Bool)⊕(Bank))) :=
 (.ite (decide (x1 < x0))
  (.guard ((0:Int)≤x1∧x1 < ((Sl.len (.ints x3):Nat):Int))
  (.ite ((decide ((x3.getD x1.toNat 0) < 0))||(decide ((x3.getD x1.toNat 0) > 400000)))
   (.leaf (.inr (.inl false)))
   (.leaf (.inl (x0,i64.wrap (x1+1),x2,x3)))))
  (.leaf (.inr (.inr x2))))
def zs8 (x0 x1:Int) (x2:Bank) (x3:(List Int)):=zdm (fun s:Int×Int×Bank×(List Int)=>(zhu s.1 s.2.1 s.2.2.1 s.2.2.2).run) (x0,x1,x2,x3)
def za9a:Ann:=⟨[],[],[],zv9,[]⟩
def zq9a:=EndD.mk (LQ.kp 0 0 (LQ.k (LQ.c (.own 1)) (LQ.v intP (LQ.v intP (LQ.seq (LP.q bankL) (Par.q zgh)))))) ⟨[1,14,15,16],[.nilown 14 3 (.ints [])]⟩ [.cells 35 7,.rows 3]
def zat1:=EndD.mk (Par.q boolP) ⟨[2],[]⟩ []
def zat2:=EndD.mk (LQ.kp 0 0 (LP.q bankL)) ⟨[1],[]⟩ [.cells 35 7]
def zl9a:St→Option LR:=L2 30 5 0 zq9a .ret zat1 (.exit 0) zat2 (u4 zhu)
def zs9a:=sub (fb Tryz.f88) [0,1,0,1]
theorem zk9a:zt (zy9).env 0 zs9a zl9a :=
 znl (A:=za9a) zh9 fM trivial (k:=zcd zs9a) (by kernel_rfl) rfl rfl (by rintro ⟨x0,x1,x2,x3⟩;kernel_rfl)
def zv5 (a0:Bank): Tr (Bool) :=
 (.guard ((Sl.len (.ints [a0.Free.x0,a0.Free.x1,a0.Free.x2,a0.Free.x3])+Sl.len (.ints [a0.Bonded,a0.Waiting,a0.Burnt]))*8≤140737488355328)
 (.guard (0 < Sl.len (.ints [a0.Bonded,a0.Waiting,a0.Burnt]))
 (.two (zs8 ((([a0.Free.x0,a0.Free.x1,a0.Free.x2,a0.Free.x3]++[a0.Bonded,a0.Waiting,a0.Burnt]).length:Nat):Int) 0 a0 ([a0.Free.x0,a0.Free.x1,a0.Free.x2,a0.Free.x3]++[a0.Bonded,a0.Waiting,a0.Burnt])) (fun v1 =>
  (.leaf v1)) (fun v2 =>
  (.bind (zv3 v2) fun v3 =>
  (.leaf (v3==400000)))))))
def ze3 (a0:Bank):=(zv5 a0).run
def zit:SpecT:=zw 0 (Par.q (Par.ofLP bankL)) 1 [] zv5 default (Par.q boolP) 1 []
theorem zja:zg Tryz.prog 88 (zit).spec :=
 sK (A:=⟨[([0,1,0,1],zl9a)],[],[],zv9,[]⟩) zh9 fM Tryz.func88 (c:=(fb Tryz.f88)) (by kernel_rfl) (Lc:=0) ⟨zk9a,trivial⟩ _ _ 5 _ _ _ _ _ _ [] (by rintro a0;kernel_rfl)
def zih (a0:Int): Tr (Bool) :=
 (.leaf ((decide (a0≥0))&&(decide (a0 < 4))))
def zg0 (a0:Int):=(zih a0).run
def zl4:SpecT:=zw 0 (Par.q intP) 1 [] zih default (Par.q boolP) 1 []
theorem zqm:zg Tryz.prog 95 (zl4).spec :=
 sK (A:=⟨[],[],[],[[0],[2]],[]⟩) zhN fM Tryz.func95 (c:=(fb Tryz.f95)) (by kernel_rfl) (Lc:=0) trivial _ _ 2 _ _ _ _ _ _ [] (by rintro a0;kernel_rfl)
def zrh (a0:Bank) (a1:Int): Tr (Int×Bank×Int) :=
 (.guard ((0:Int)≤a1∧(a1:Int) < 4)
 (.leaf (a1,a0,a1)))
def zhv (a0:Bank) (a1:Int):=(zrh a0 a1).run
def zri:SpecT:=zw 2 (LQ.kp 0 0 (LQ.kp 1 0 (LQ.seq (LP.q bankL) (Par.q intP)))) 2 [.cells 35 7,.cells 3 1] (u2 zrh) default (LQ.seq (LQ.pix1 0 0 4 1 0) (LQ.seq (LP.q bankL) (Par.q intP))) 1 [.cells 35 7,.cells 3 1]
theorem zva:zg Tryz.prog 125 (zri).spec :=
 sK (A:=⟨[],[],[],[[0,1],[3]],[]⟩) zhN fM Tryz.func125 (c:=(fb Tryz.f125)) (by kernel_rfl) (Lc:=2) trivial _ _ 4 _ _ _ _ _ _ [] (by rintro ⟨a0,a1⟩;kernel_rfl)
def zrj (a0:Int): Tr (Int) :=
 (.leaf a0)
def zb3 (a0:Int):=(zrj a0).run
def zv6:SpecT:=zw 0 (Par.q intP) 1 [] zrj default (LQ.k (LQ.c (.fn 125 [.ptr 0 0])) (Par.q intP)) 1 [.cells 3 1]
theorem zzv:zg Tryz.prog 97 (zv6).spec :=
 sK (A:=⟨[],[],[],[[1],[2]],[]⟩) zhN fM Tryz.func97 (c:=(fb Tryz.f97)) (by kernel_rfl) (Lc:=0) trivial _ _ 3 _ _ _ _ _ _ [] (by rintro a0;kernel_rfl)
def zrk (a0:Bank): Tr (Bank) :=
 (.leaf a0)
def zd5 (a0:Bank):=(zrk a0).run
def zm4:SpecT:=zw 1 (LQ.kp 0 0 (LP.q bankL)) 1 [.cells 35 7] zrk default (LQ.kp 0 4 (LP.q bankL)) 1 [.cells 35 7]
theorem zpm:zg Tryz.prog 98 (zm4).spec :=
 sK (A:=⟨[],[],[],[[0],[2]],[]⟩) zhN fM Tryz.func98 (c:=(fb Tryz.f98)) (by kernel_rfl) (Lc:=1) trivial _ _ 3 _ _ _ _ _ _ [] (by rintro a0;kernel_rfl)
def zpn (a0:Bank): Tr (Bank) :=
 (.leaf a0)
def zdb (a0:Bank):=(zpn a0).run
def zla:SpecT:=zw 1 (LQ.kp 0 0 (LP.q bankL)) 1 [.cells 35 7] zpn default (LQ.kp 0 5 (LP.q bankL)) 1 [.cells 35 7]
theorem znq:zg Tryz.prog 99 (zla).spec :=
 sK (A:=⟨[],[],[],[[0],[2]],[]⟩) zhN fM Tryz.func99 (c:=(fb Tryz.f99)) (by kernel_rfl) (Lc:=1) trivial _ _ 3 _ _ _ _ _ _ [] (by rintro a0;kernel_rfl)
def zs9 (a0:Bank): Tr (Bank) :=
 (.leaf a0)
def zm5 (a0:Bank):=(zs9 a0).run
def zta:SpecT:=zw 1 (LQ.kp 0 0 (LP.q bankL)) 1 [.cells 35 7] zs9 default (LQ.kp 0 6 (LP.q bankL)) 1 [.cells 35 7]
theorem zxn:zg Tryz.prog 100 (zta).spec :=
 sK (A:=⟨[],[],[],[[0],[2]],[]⟩) zhN fM Tryz.func100 (c:=(fb Tryz.f100)) (by kernel_rfl) (Lc:=1) trivial _ _ 3 _ _ _ _ _ _ [] (by rintro a0;kernel_rfl)
noncomputable def zy16:EnvT:=⟨Tryz.prog,zah [(88,zit),(89,zi9),(125,zri),(98,zm4)]⟩
theorem zh16:(zy16).Ok:=zf ⟨zja,zis,zva,zpm,trivial⟩
def zrl (a0:Bank) (a1 a2:Int): Tr (Bank×Int×Int) :=
 (.bind (ze3 a0) fun v1 =>
 (.guard (((!v1)=false→((zac a1).isSome=true)∧True))
 (.ite ((!v1)||(!((zac a1).getD default)))
  (.leaf (a0,2,a2))
  (.bind (zhv a0 a2) fun v2 =>
  (.ite (decide ((v2.2.1.Free.get v2.1) < a1))
   (.leaf (v2.2.1,7,v2.2.2))
   (.bind (zhv v2.2.1 v2.2.2) fun v3 =>
   (.bind (zd5 ({ v3.2.1 with Free:=(v3.2.1.Free.set v3.1 (i64.wrap ((v3.2.1.Free.get v3.1) - a1))) })) fun v4 =>
   (.leaf ({ v4 with Bonded:=i64.wrap (v4.Bonded+a1) },0,v3.2.2)))))))))
def zhw (a0:Bank) (a1 a2:Int):=(zrl a0 a1 a2).run
def zxo:SpecT:=zw 1 (LQ.v (Par.ofLP bankL) (LQ.k (LQ.c (.fn 125 [.ptr 0 0])) (LQ.k (LQ.c (.fn 98 [])) (LQ.v intP (Par.q intP))))) 4 [.cells 3 1] (u3 zrl) default (LQ.v (Par.ofLP bankL) (LQ.v intP (Par.q intP))) 2 [.cells 3 1]
theorem z3z:zg Tryz.prog 96 (zxo).spec :=
 sK (A:=⟨[],[],[],[[1,2,3,4,8],[1,2,3,4,8,10],[8,9],[1,2,3,4,8,20],[8,9],[2,3,4,8],[4,8],[8,9]],[]⟩) zh16 fM Tryz.func96 (c:=(fb Tryz.f96)) (by kernel_rfl) (Lc:=1) trivial _ _ 5 _ _ _ _ _ _ [] (by rintro ⟨a0,a1,a2⟩;kernel_rfl)
noncomputable def zy17:EnvT:=⟨Tryz.prog,zah [(88,zit),(89,zi9),(98,zm4),(99,zla)]⟩
theorem zh17:(zy17).Ok:=zf ⟨zja,zis,zpm,znq,trivial⟩
def zrm (a0:Bank) (a1:Int): Tr (Bank×Int) :=
 (.bind (ze3 a0) fun v1 =>
 (.guard (((!v1)=false→((zac a1).isSome=true)∧True))
 (.ite ((!v1)||(!((zac a1).getD default)))
  (.leaf (a0,2))
  (.bind (zd5 a0) fun v2 =>
  (.ite (decide (v2.Bonded < a1))
   (.leaf (v2,7))
   (.bind (zd5 v2) fun v3 =>
   (.bind (zdb ({ v3 with Bonded:=i64.wrap (v3.Bonded - a1) })) fun v4 =>
   (.leaf ({ v4 with Waiting:=i64.wrap (v4.Waiting+a1) },0)))))))))
def zpo (a0:Bank) (a1:Int):=(zrm a0 a1).run
def zxp:SpecT:=zw 0 (LQ.v (Par.ofLP bankL) (LQ.k (LQ.c (.fn 98 [])) (LQ.k (LQ.c (.fn 99 [])) (Par.q intP)))) 4 [] (u2 zrm) default (LQ.v (Par.ofLP bankL) (Par.q intP)) 2 []
theorem z30:zg Tryz.prog 96 (zxp).spec :=
 sK (A:=⟨[],[],[],[[1,2,3,4,8],[1,2,3,4,8,10],[8,9],[1,2,3,4,8,20],[8,9],[2,3,4,8],[4,8],[8,9]],[]⟩) zh17 fM Tryz.func96 (c:=(fb Tryz.f96)) (by kernel_rfl) (Lc:=0) trivial _ _ 4 _ _ _ _ _ _ [] (by rintro ⟨a0,a1⟩;kernel_rfl)
noncomputable def zy18:EnvT:=⟨Tryz.prog,zah [(88,zit),(89,zi9),(99,zla),(125,zri)]⟩
theorem zh18:(zy18).Ok:=zf ⟨zja,zis,znq,zva,trivial⟩
def zrn (a0:Bank) (a1 a2:Int): Tr (Bank×Int×Int) :=
 (.bind (ze3 a0) fun v1 =>
 (.guard (((!v1)=false→((zac a1).isSome=true)∧True))
 (.ite ((!v1)||(!((zac a1).getD default)))
  (.leaf (a0,2,a2))
  (.bind (zdb a0) fun v2 =>
  (.ite (decide (v2.Waiting < a1))
   (.leaf (v2,7,a2))
   (.bind (zdb v2) fun v3 =>
   (.bind (zhv ({ v3 with Waiting:=i64.wrap (v3.Waiting - a1) }) a2) fun v4 =>
   (.leaf ({ v4.2.1 with Free:=(v4.2.1.Free.set v4.1 (i64.wrap ((v4.2.1.Free.get v4.1)+a1))) },0,v4.2.2)))))))))
def zhx (a0:Bank) (a1 a2:Int):=(zrn a0 a1 a2).run
def zxq:SpecT:=zw 1 (LQ.v (Par.ofLP bankL) (LQ.k (LQ.c (.fn 99 [])) (LQ.k (LQ.c (.fn 125 [.ptr 0 0])) (LQ.v intP (Par.q intP))))) 4 [.cells 3 1] (u3 zrn) default (LQ.v (Par.ofLP bankL) (LQ.v intP (Par.q intP))) 2 [.cells 3 1]
theorem z31:zg Tryz.prog 96 (zxq).spec :=
 sK (A:=⟨[],[],[],[[1,2,3,4,8],[1,2,3,4,8,10],[8,9],[1,2,3,4,8,20],[8,9],[2,3,4,8],[4,8],[8,9]],[]⟩) zh18 fM Tryz.func96 (c:=(fb Tryz.f96)) (by kernel_rfl) (Lc:=1) trivial _ _ 5 _ _ _ _ _ _ [] (by rintro ⟨a0,a1,a2⟩;kernel_rfl)
noncomputable def zy19:EnvT:=⟨Tryz.prog,zah [(88,zit),(89,zi9),(98,zm4),(100,zta)]⟩
theorem zh19:(zy19).Ok:=zf ⟨zja,zis,zpm,zxn,trivial⟩
def zro (a0:Bank) (a1:Int): Tr (Bank×Int) :=
 (.bind (ze3 a0) fun v1 =>
 (.guard (((!v1)=false→((zac a1).isSome=true)∧True))
 (.ite ((!v1)||(!((zac a1).getD default)))
  (.leaf (a0,2))
  (.bind (zd5 a0) fun v2 =>
  (.ite (decide (v2.Bonded < a1))
   (.leaf (v2,7))
   (.bind (zd5 v2) fun v3 =>
   (.bind (zm5 ({ v3 with Bonded:=i64.wrap (v3.Bonded - a1) })) fun v4 =>
   (.leaf ({ v4 with Burnt:=i64.wrap (v4.Burnt+a1) },0)))))))))
def zpp (a0:Bank) (a1:Int):=(zro a0 a1).run
def zxr:SpecT:=zw 0 (LQ.v (Par.ofLP bankL) (LQ.k (LQ.c (.fn 98 [])) (LQ.k (LQ.c (.fn 100 [])) (Par.q intP)))) 4 [] (u2 zro) default (LQ.v (Par.ofLP bankL) (Par.q intP)) 2 []
theorem z32:zg Tryz.prog 96 (zxr).spec :=
 sK (A:=⟨[],[],[],[[1,2,3,4,8],[1,2,3,4,8,10],[8,9],[1,2,3,4,8,20],[8,9],[2,3,4,8],[4,8],[8,9]],[]⟩) zh19 fM Tryz.func96 (c:=(fb Tryz.f96)) (by kernel_rfl) (Lc:=0) trivial _ _ 4 _ _ _ _ _ _ [] (by rintro ⟨a0,a1⟩;kernel_rfl)
noncomputable def zy20:EnvT:=⟨Tryz.prog,zah [(88,zit),(89,zi9),(99,zla),(100,zta)]⟩
theorem zh20:(zy20).Ok:=zf ⟨zja,zis,znq,zxn,trivial⟩
def zrp (a0:Bank) (a1:Int): Tr (Bank×Int) :=
 (.bind (ze3 a0) fun v1 =>
 (.guard (((!v1)=false→((zac a1).isSome=true)∧True))
 (.ite ((!v1)||(!((zac a1).getD default)))
  (.leaf (a0,2))
  (.bind (zdb a0) fun v2 =>
  (.ite (decide (v2.Waiting < a1))
   (.leaf (v2,7))
   (.bind (zdb v2) fun v3 =>
   (.bind (zm5 ({ v3 with Waiting:=i64.wrap (v3.Waiting - a1) })) fun v4 =>
   (.leaf ({ v4 with Burnt:=i64.wrap (v4.Burnt+a1) },0)))))))))
def zpq (a0:Bank) (a1:Int):=(zrp a0 a1).run
def zxs:SpecT:=zw 0 (LQ.v (Par.ofLP bankL) (LQ.k (LQ.c (.fn 99 [])) (LQ.k (LQ.c (.fn 100 [])) (Par.q intP)))) 4 [] (u2 zrp) default (LQ.v (Par.ofLP bankL) (Par.q intP)) 2 []
theorem z33:zg Tryz.prog 96 (zxs).spec :=
 sK (A:=⟨[],[],[],[[1,2,3,4,8],[1,2,3,4,8,10],[8,9],[1,2,3,4,8,20],[8,9],[2,3,4,8],[4,8],[8,9]],[]⟩) zh20 fM Tryz.func96 (c:=(fb Tryz.f96)) (by kernel_rfl) (Lc:=0) trivial _ _ 4 _ _ _ _ _ _ [] (by rintro ⟨a0,a1⟩;kernel_rfl)
def znr:SpecT:=altT zxo (altT zxp (altT zxq (altT zxr (zxs))))
theorem zo5:zg Tryz.prog 96 (znr).spec:=z57 z3z (z57 z30 (z57 z31 (z57 z32 (z33))))
noncomputable def zy22:EnvT:=⟨Tryz.prog,zah [(95,zl4),(97,zv6),(96,znr)]⟩
theorem zh22:(zy22).Ok:=zf ⟨zqm,zzv,zo5,trivial⟩
def zwa (a0:Bank) (a1 a2:Int): Tr (Bank×Int) :=
 (.bind (zg0 a1) fun v1 =>
 (.ite (!v1)
  (.leaf (a0,4))
  (.guard ((zb3 a1).isSome=true)
  (.guard ((zhw a0 a2 ((zb3 a1).getD default)).isSome=true)
  (.leaf ((((zhw a0 a2 ((zb3 a1).getD default)).getD default).1),((zhw a0 a2 ((zb3 a1).getD default)).getD default).2.1))))))
def zo6 (a0:Bank) (a1 a2:Int):=(zwa a0 a1 a2).run
def z1w:SpecT:=zw 0 (LQ.v (Par.ofLP bankL) (LQ.v intP (Par.q intP))) 3 [] (u3 zwa) default (LQ.v (Par.ofLP bankL) (Par.q intP)) 2 []
theorem z8v:zg Tryz.prog 62 (z1w).spec :=
 sK (A:=⟨[],[],[],[[1,2,3,6],[1,2,3,6,10],[6,7],[6,7]],[]⟩) zh22 fM Tryz.func62 (c:=(fb Tryz.f62)) (by kernel_rfl) (Lc:=0) trivial _ _ 5 _ _ _ _ _ _ [] (by rintro ⟨a0,a1,a2⟩;kernel_rfl)
noncomputable def zy23:EnvT:=⟨Tryz.prog,zah [(96,znr)]⟩
theorem zh23:(zy23).Ok:=zf ⟨zo5,trivial⟩
def zrq (a0:Bank) (a1:Int): Tr (Bank×Int) :=
 (.bind (zpo a0 a1) fun v2 =>
 (.leaf (v2.1,v2.2)))
def zhy (a0:Bank) (a1:Int):=(zrq a0 a1).run
def zxt:SpecT:=zw 0 (LQ.v (Par.ofLP bankL) (Par.q intP)) 2 [] (u2 zrq) default (LQ.v (Par.ofLP bankL) (Par.q intP)) 2 []
theorem z34:zg Tryz.prog 63 (zxt).spec :=
 sK (A:=⟨[],[],[],[[1,2,4],[4,5]],[]⟩) zh23 fM Tryz.func63 (c:=(fb Tryz.f63)) (by kernel_rfl) (Lc:=0) trivial _ _ 4 _ _ _ _ _ _ [] (by rintro ⟨a0,a1⟩;kernel_rfl)
noncomputable def zy24:EnvT:=⟨Tryz.prog,zah [(95,zl4),(97,zv6),(96,znr)]⟩
theorem zh24:(zy24).Ok:=zf ⟨zqm,zzv,zo5,trivial⟩
def zyw (a0:Bank) (a1 a2:Int): Tr (Bank×Int) :=
 (.bind (zg0 a1) fun v1 =>
 (.ite (!v1)
  (.leaf (a0,4))
  (.guard ((zb3 a1).isSome=true)
  (.guard ((zhx a0 a2 ((zb3 a1).getD default)).isSome=true)
  (.leaf ((((zhx a0 a2 ((zb3 a1).getD default)).getD default).1),((zhx a0 a2 ((zb3 a1).getD default)).getD default).2.1))))))
def zwb (a0:Bank) (a1 a2:Int):=(zyw a0 a1 a2).run
def z40:SpecT:=zw 0 (LQ.v (Par.ofLP bankL) (LQ.v intP (Par.q intP))) 3 [] (u3 zyw) default (LQ.v (Par.ofLP bankL) (Par.q intP)) 2 []
theorem zab1:zg Tryz.prog 107 (z40).spec :=
 sK (A:=⟨[],[],[],[[1,2,3,6],[1,2,3,6,10],[6,7],[6,7]],[]⟩) zh24 fM Tryz.func107 (c:=(fb Tryz.f107)) (by kernel_rfl) (Lc:=0) trivial _ _ 5 _ _ _ _ _ _ [] (by rintro ⟨a0,a1,a2⟩;kernel_rfl)
noncomputable def zy25:EnvT:=⟨Tryz.prog,zah [(96,znr)]⟩
theorem zh25:(zy25).Ok:=zf ⟨zo5,trivial⟩
def zwc (a0:Bank) (a1 a2:Int): Tr (Bank×Int) :=
 (.bind (zpp a0 a1) fun v4 =>
 (.ite (v4.2 != 0)
  (.leaf (a0,v4.2))
  (.bind (zpq v4.1 a2) fun v9 =>
  (.ite (v9.2 != 0)
   (.leaf (a0,v9.2))
   (.leaf (v9.1,0))))))
def ztb (a0:Bank) (a1 a2:Int):=(zwc a0 a1 a2).run
def z1x:SpecT:=zw 0 (LQ.v (Par.ofLP bankL) (LQ.v intP (Par.q intP))) 3 [] (u3 zwc) default (LQ.v (Par.ofLP bankL) (Par.q intP)) 2 []
theorem z8w:zg Tryz.prog 66 (z1x).spec :=
 sK (A:=⟨[],[],[],[[1,2,3,6],[2,3,6,8,9],[2,3,6,8,9,17],[6,7],[3,6,8,9],[3,6,8,9,27],[6,7],[6,7]],[]⟩) zh25 fM Tryz.func66 (c:=(fb Tryz.f66)) (by kernel_rfl) (Lc:=0) trivial _ _ 5 _ _ _ _ _ _ [] (by rintro ⟨a0,a1,a2⟩;kernel_rfl)
def zkn (a0:Int): Tr (Int) :=
 (.guard ((5:Int)≠0)
 (.leaf (if (i64.wrap (Int.tdiv a0 5)) > 1 then (i64.wrap (Int.tdiv a0 5)) else 1)))
def zjm (a0:Int):=(zkn a0).run
def zqn:SpecT:=zw 0 (Par.q intP) 1 [] zkn default (Par.q intP) 1 []
theorem zxu:zg Tryz.prog 87 (zqn).spec :=
 sK (A:=⟨[],[],[],[[0],[2]],[]⟩) zhN fM Tryz.func87 (c:=(fb Tryz.f87)) (by kernel_rfl) (Lc:=0) trivial _ _ 2 _ _ _ _ _ _ [] (by rintro a0;kernel_rfl)
noncomputable def zy27:EnvT:=⟨Tryz.prog,zah [(87,zqn)]⟩
theorem zh27:(zy27).Ok:=zf ⟨zxu,trivial⟩
def zwd (a0 a1:Int): Tr (Meter) :=
 (.bind (zjm a0) fun v1 =>
 (.leaf (⟨v1,i64.wrap (a1+10)⟩:Meter)))
def zo7 (a0 a1:Int):=(zwd a0 a1).run
def zwe:SpecT:=zw 0 (LQ.v intP (Par.q intP)) 2 [] (u2 zwd) default (Par.q (Par.ofLP meterL)) 1 []
theorem zzw:zg Tryz.prog 55 (zwe).spec :=
 sK (A:=⟨[],[],[],[[0,1,4],[4]],[]⟩) zh27 fM Tryz.func55 (c:=(fb Tryz.f55)) (by kernel_rfl) (Lc:=0) trivial _ _ 3 _ _ _ _ _ _ [] (by rintro ⟨a0,a1⟩;kernel_rfl)
noncomputable def zy28:EnvT:=⟨Tryz.prog,zah [(55,zwe)]⟩
theorem zh28:(zy28).Ok:=zf ⟨zzw,trivial⟩
def ztc (a0:Meter) (a1 a2:Int): Tr (Meter) :=
 (.ite (decide (a2≥a0.Next))
  (.bind (zo7 a1 a2) fun v1 =>
  (.leaf v1))
  (.leaf a0))
def zm6 (a0:Meter) (a1 a2:Int):=(ztc a0 a1 a2).run
def zzx:SpecT:=zw 0 (LQ.v (Par.ofLP meterL) (LQ.v intP (Par.q intP))) 3 [] (u3 ztc) default (Par.q (Par.ofLP meterL)) 1 []
theorem z6z:zg Tryz.prog 67 (zzx).spec :=
 sK (A:=⟨[],[],[],[[1,2,3,6],[1,2,3,6,10],[6],[6]],[]⟩) zh28 fM Tryz.func67 (c:=(fb Tryz.f67)) (by kernel_rfl) (Lc:=0) trivial _ _ 4 _ _ _ _ _ _ [] (by rintro ⟨a0,a1,a2⟩;kernel_rfl)
def ztd (a0:Meter) (a1:Int): Tr (Meter×Bool) :=
 (.ite (decide (a0.Left≤0))
  (.leaf (a0,false))
  (.leaf ((⟨i64.wrap (a0.Left - a1),a0.Next⟩:Meter),true)))
def zg1 (a0:Meter) (a1:Int):=(ztd a0 a1).run
def zzy:SpecT:=zw 0 (LQ.v (Par.ofLP meterL) (Par.q intP)) 2 [] (u2 ztd) default (LQ.v (Par.ofLP meterL) (Par.q boolP)) 2 []
theorem z60:zg Tryz.prog 102 (zzy).spec :=
 sK (A:=⟨[],[],[],[[1,2,4],[1,2,4,8],[4,5],[2,4],[4,5]],[]⟩) zhN fM Tryz.func102 (c:=(fb Tryz.f102)) (by kernel_rfl) (Lc:=0) trivial _ _ 4 _ _ _ _ _ _ [] (by rintro ⟨a0,a1⟩;kernel_rfl)
end
