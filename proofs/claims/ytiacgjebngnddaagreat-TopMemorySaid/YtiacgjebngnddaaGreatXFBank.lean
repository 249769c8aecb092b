/-
  The functions, each by its tree.
-/
import Derived.Test.YtiacgjebngnddaaGreatXAbC
import Derived.Test.YtiacgjebngnddaaGreatXFRatio
import Derived.Test.YtiacgjebngnddaaGreatXFacts
namespace Go.Proofs.YtiacgjebngnddaaGreat.Ab
open Go Go.RowKit
open Go.IntKind (i64 u64)
set_option maxRecDepth 100000
set_option linter.unusedVariables false
set_option linter.unusedSimpArgs false
noncomputable section
def zv7:List (List Nat):=[[0],[0,1],[0,1,3],[0,1,3,4],[0,1,2,3],[0,1,3],[0,1,3],[0]]
def zfp (x0:Int) (x1 x2:Bank): Tr ((Int×Bank×Bank)⊕(Bank×Bank)) :=
 (.ite (decide (x0 < 4))
  (.guard ((0:Int)≤x0∧(x0:Int) < 4)
  (.leaf (.inl (i64.wrap (x0+1),x1,{ x2 with Free:=(x2.Free.set x0 100000) }))))
  (.leaf (.inr (x1,x2))))
def zqb (x0:Int) (x1 x2:Bank):=zcv (fun s:Int×Bank×Bank=>(zfp s.1 s.2.1 s.2.2).run) (x0,x1,x2)
def za7a:Ann:=⟨[],[],[],zv7,[]⟩
def zq7a:=EndD.mk (LQ.kp 0 0 (LQ.kp 1 0 (LQ.v intP (LQ.seq (LP.q bankL) (LP.q bankL))))) ⟨[0,1,3],[]⟩ [.cells 35 7,.cells 35 7]
def zas8:=EndD.mk (LQ.kp 0 0 (LQ.kp 1 0 (LQ.seq (LP.q bankL) (LP.q bankL)))) ⟨[0,1],[]⟩ [.cells 35 7,.cells 35 7]
def zl7a:St→Option LR:=L1 11 4 0 zq7a (.exit 0) zas8 (u3 zfp)
def zs7a:=sub (fb Tryz.f86) [0,1,0,1,1]
theorem zk7a:zl (zyN).env 0 zs7a zl7a :=
 zd1 (A:=za7a) zhN fM trivial (k:=za5 zs7a) (by kernel_rfl) rfl (by rintro ⟨x0,x1,x2⟩;kernel_rfl)
def zzm  : Tr (Bank) :=
 (.bind (zqb 0 (⟨(⟨0,0,0,0⟩:(A4 Int)),0,0,0⟩:Bank) (⟨(⟨0,0,0,0⟩:(A4 Int)),0,0,0⟩:Bank)) fun v1 =>
 (.leaf v1.2))
def zwu  := (zzm ).run
def z5d:SpecT:=zu 0 LQ.nil 0 [] (fun s=>zzm ) default (Par.q (Par.ofLP bankL)) 1 []
theorem zabm:zg Tryz.prog 86 (z5d).spec :=
 sK (A:=⟨[([0,1,0,1,1],zl7a)],[],[],zv7,[]⟩) zhN fM Tryz.func86 (c:=(fb Tryz.f86)) (by kernel_rfl) (Lc:=0) ⟨zk7a,trivial⟩ _ _ 4 _ _ _ _ _ _ [] (by rintro _;kernel_rfl)
def zv8:List (List Nat):=[[1],[1,3],[3,15,16],[3,15,16,17],[3,5,15,16],[3,15,16],[3,15,16],[2]]
def zfq (x0:Int) (x1:(A4 Int)) (x2:Int): Tr ((Int×(A4 Int)×Int)⊕(Int)) :=
 (.ite (decide (x2 < 4))
  (.guard ((0:Int)≤x2∧(x2:Int) < 4)
  (.leaf (.inl (i64.wrap (x0+(x1.get x2)),x1,i64.wrap (x2+1)))))
  (.leaf (.inr x0)))
def zqc (x0:Int) (x1:(A4 Int)) (x2:Int):=zcv (fun s:Int×(A4 Int)×Int=>(zfq s.1 s.2.1 s.2.2).run) (x0,x1,x2)
def za8a:Ann:=⟨[],[],[],zv8,[]⟩
def zq8a:=EndD.mk (LQ.v intP (LQ.seq (Par.q (Par.ofLP (a4L (LP.one intP)))) (Par.q intP))) ⟨[3,15,16],[]⟩ []
def zas9:=EndD.mk (Par.q intP) ⟨[3],[]⟩ []
def zl8a:St→Option LR:=L1 24 3 0 zq8a (.exit 0) zas9 (u3 zfq)
def zs8a:=sub (fb Tryz.f122) [0,1,0,1,1]
theorem zk8a:zl (zyN).env 0 zs8a zl8a :=
 zd1 (A:=za8a) zhN fM trivial (k:=za5 zs8a) (by kernel_rfl) rfl (by rintro ⟨x0,x1,x2⟩;kernel_rfl)
def zzn (a0:Bank): Tr (Int) :=
 (.bind (zqc (i64.wrap ((i64.wrap (a0.Bonded+a0.Waiting))+a0.Burnt)) a0.Free 0) fun v1 =>
 (.leaf v1))
def zwv (a0:Bank):=(zzn a0).run
def z5e:SpecT:=zu 0 (Par.q (Par.ofLP bankL)) 1 [] zzn default (Par.q intP) 1 []
theorem zabn:zg Tryz.prog 122 (z5e).spec :=
 sK (A:=⟨[([0,1,0,1,1],zl8a)],[],[],zv8,[]⟩) zhN fM Tryz.func122 (c:=(fb Tryz.f122)) (by kernel_rfl) (Lc:=0) ⟨zk8a,trivial⟩ _ _ 3 _ _ _ _ _ _ [] (by rintro a0;kernel_rfl)
def zv9:List (List Nat):=[[1],[1,14,15,16],[1,14,15,16,17],[1,4,14,15,16],[1,14,15,16,25],[2],[1,14,15,16],[2]]
noncomputable def zy9:EnvT:=⟨Tryz.prog,zad [(122,z5e)],false⟩
theorem zh9:(zy9).Ok:=zf ⟨zabn,trivial⟩
def zid (x0 x1:Int) (x2:Bank) (x3:(List Int)): Tr ((Int×Int×Bank×(List Int))⊕((Bool)⊕(Bank))) :=
 (.ite (decide (x1 < x0))
  (.guard ((0:Int)≤x1∧x1 < ((Sl.len (.ints x3):Nat):Int))
  (.ite ((decide ((x3.getD x1.toNat 0) < 0))||(decide ((x3.getD x1.toNat 0) > 400000)))
   (.leaf (.inr (.inl false)))
   (.leaf (.inl (x0,i64.wrap (x1+1),x2,x3)))))
  (.leaf (.inr (.inr x2))))
def ztr (x0 x1:Int) (x2:Bank) (x3:(List Int)):=zcv (fun s:Int×Int×Bank×(List Int)=>(zid s.1 s.2.1 s.2.2.1 s.2.2.2).run) (x0,x1,x2,x3)
def za9a:Ann:=⟨[],[],[],zv9,[]⟩
def zq9a:=EndD.mk (LQ.kp 0 0 (LQ.k (LQ.c (.own 1)) (LQ.v intP (LQ.v intP (LQ.seq (LP.q bankL) (Par.q zt)))))) ⟨[1,14,15,16],[.nilown 14 3 (.ints [])]⟩ [.cells 35 7,.rows 3]
def zata:=EndD.mk (Par.q boolP) ⟨[2],[]⟩ []
def zatb:=EndD.mk (LQ.kp 0 0 (LP.q bankL)) ⟨[1],[]⟩ [.cells 35 7]
def zl9a:St→Option LR:=L2 30 5 0 zq9a .ret zata (.exit 0) zatb (u4 zid)
def zs9a:=sub (fb Tryz.f88) [0,1,0,1]
theorem zk9a:zl (zy9).env 0 zs9a zl9a :=
 zmq (A:=za9a) zh9 fM trivial (k:=za5 zs9a) (by kernel_rfl) rfl rfl (by rintro ⟨x0,x1,x2,x3⟩;kernel_rfl)
def zww (a0:Bank): Tr (Bool) :=
 (.guard ((Sl.len (.ints [a0.Free.x0,a0.Free.x1,a0.Free.x2,a0.Free.x3])+Sl.len (.ints [a0.Bonded,a0.Waiting,a0.Burnt]))*8≤140737488355328)
 (.guard (0 < Sl.len (.ints [a0.Bonded,a0.Waiting,a0.Burnt]))
 (.two (ztr ((([a0.Free.x0,a0.Free.x1,a0.Free.x2,a0.Free.x3]++[a0.Bonded,a0.Waiting,a0.Burnt]).length:Nat):Int) 0 a0 ([a0.Free.x0,a0.Free.x1,a0.Free.x2,a0.Free.x3]++[a0.Bonded,a0.Waiting,a0.Burnt])) (fun v1 =>
  (.leaf v1)) (fun v2 =>
  (.bind (zwv v2) fun v3 =>
  (.leaf (v3==400000)))))))
def zfh (a0:Bank):=(zww a0).run
def zi7:SpecT:=zu 0 (Par.q (Par.ofLP bankL)) 1 [] zww default (Par.q boolP) 1 []
theorem zjo:zg Tryz.prog 88 (zi7).spec :=
 sK (A:=⟨[([0,1,0,1],zl9a)],[],[],zv9,[]⟩) zh9 fM Tryz.func88 (c:=(fb Tryz.f88)) (by kernel_rfl) (Lc:=0) ⟨zk9a,trivial⟩ _ _ 5 _ _ _ _ _ _ [] (by rintro a0;kernel_rfl)
def ziw (a0:Int): Tr (Bool) :=
 (.leaf ((decide (a0≥0))&&(decide (a0 < 4))))
def zhp (a0:Int):=(ziw a0).run
def zms:SpecT:=zu 0 (Par.q intP) 1 [] ziw default (Par.q boolP) 1 []
theorem zrf:zg Tryz.prog 95 (zms).spec :=
 sK (A:=⟨[],[],[],[[0],[2]],[]⟩) zhN fM Tryz.func95 (c:=(fb Tryz.f95)) (by kernel_rfl) (Lc:=0) trivial _ _ 2 _ _ _ _ _ _ [] (by rintro a0;kernel_rfl)
def zr8 (a0:Bank) (a1:Int): Tr (Int×Bank×Int) :=
 (.guard ((0:Int)≤a1∧(a1:Int) < 4)
 (.leaf (a1,a0,a1)))
def zie (a0:Bank) (a1:Int):=(zr8 a0 a1).run
def zr9:SpecT:=zu 2 (LQ.kp 0 0 (LQ.kp 1 0 (LQ.seq (LP.q bankL) (Par.q intP)))) 2 [.cells 35 7,.cells 3 1] (u2 zr8) default (LQ.seq (LQ.pix1 0 0 4 1 0) (LQ.seq (LP.q bankL) (Par.q intP))) 1 [.cells 35 7,.cells 3 1]
theorem zvs:zg Tryz.prog 125 (zr9).spec :=
 sK (A:=⟨[],[],[],[[0,1],[3]],[]⟩) zhN fM Tryz.func125 (c:=(fb Tryz.f125)) (by kernel_rfl) (Lc:=2) trivial _ _ 4 _ _ _ _ _ _ [] (by rintro ⟨a0,a1⟩;kernel_rfl)
def zsa (a0:Int): Tr (Int) :=
 (.leaf a0)
def zb2 (a0:Int):=(zsa a0).run
def zwx:SpecT:=zu 0 (Par.q intP) 1 [] zsa default (LQ.k (LQ.c (.fn 125 [.ptr 0 0])) (Par.q intP)) 1 [.cells 3 1]
theorem z0k:zg Tryz.prog 97 (zwx).spec :=
 sK (A:=⟨[],[],[],[[1],[2]],[]⟩) zhN fM Tryz.func97 (c:=(fb Tryz.f97)) (by kernel_rfl) (Lc:=0) trivial _ _ 3 _ _ _ _ _ _ [] (by rintro a0;kernel_rfl)
def zsb (a0:Bank): Tr (Bank) :=
 (.leaf a0)
def zeh (a0:Bank):=(zsb a0).run
def znq:SpecT:=zu 1 (LQ.kp 0 0 (LP.q bankL)) 1 [.cells 35 7] zsb default (LQ.kp 0 4 (LP.q bankL)) 1 [.cells 35 7]
theorem zqd:zg Tryz.prog 98 (znq).spec :=
 sK (A:=⟨[],[],[],[[0],[2]],[]⟩) zhN fM Tryz.func98 (c:=(fb Tryz.f98)) (by kernel_rfl) (Lc:=1) trivial _ _ 3 _ _ _ _ _ _ [] (by rintro a0;kernel_rfl)
def zqe (a0:Bank): Tr (Bank) :=
 (.leaf a0)
def zdr (a0:Bank):=(zqe a0).run
def zlz:SpecT:=zu 1 (LQ.kp 0 0 (LP.q bankL)) 1 [.cells 35 7] zqe default (LQ.kp 0 5 (LP.q bankL)) 1 [.cells 35 7]
theorem zoc:zg Tryz.prog 99 (zlz).spec :=
 sK (A:=⟨[],[],[],[[0],[2]],[]⟩) zhN fM Tryz.func99 (c:=(fb Tryz.f99)) (by kernel_rfl) (Lc:=1) trivial _ _ 3 _ _ _ _ _ _ [] (by rintro a0;kernel_rfl)
def zts (a0:Bank): Tr (Bank) :=
 (.leaf a0)
def znr (a0:Bank):=(zts a0).run
def ztt:SpecT:=zu 1 (LQ.kp 0 0 (LP.q bankL)) 1 [.cells 35 7] zts default (LQ.kp 0 6 (LP.q bankL)) 1 [.cells 35 7]
theorem zya:zg Tryz.prog 100 (ztt).spec :=
 sK (A:=⟨[],[],[],[[0],[2]],[]⟩) zhN fM Tryz.func100 (c:=(fb Tryz.f100)) (by kernel_rfl) (Lc:=1) trivial _ _ 3 _ _ _ _ _ _ [] (by rintro a0;kernel_rfl)
noncomputable def zy16:EnvT:=⟨Tryz.prog,zad [(88,zi7),(89,zjn),(125,zr9),(98,znq)],false⟩
theorem zh16:(zy16).Ok:=zf ⟨zjo,zi6,zvs,zqd,trivial⟩
def zsc (a0:Bank) (a1 a2:Int): Tr (Bank×Int×Int) :=
 (.bind (zfh a0) fun v1 =>
 (.guard (((!v1)=false→((zae a1).isSome=true)∧True))
 (.ite ((!v1)||(!((zae a1).getD default)))
  (.leaf (a0,2,a2))
  (.bind (zie a0 a2) fun v2 =>
  (.ite (decide ((v2.2.1.Free.get v2.1) < a1))
   (.leaf (v2.2.1,7,v2.2.2))
   (.bind (zie v2.2.1 v2.2.2) fun v3 =>
   (.bind (zeh ({ v3.2.1 with Free:=(v3.2.1.Free.set v3.1 (i64.wrap ((v3.2.1.Free.get v3.1) - a1))) })) fun v4 =>
   (.leaf ({ v4 with Bonded:=i64.wrap (v4.Bonded+a1) },0,v3.2.2)))))))))
def zif (a0:Bank) (a1 a2:Int):=(zsc a0 a1 a2).run
def zyb:SpecT:=zu 1 (LQ.v (Par.ofLP bankL) (LQ.k (LQ.c (.fn 125 [.ptr 0 0])) (LQ.k (LQ.c (.fn 98 [])) (LQ.v intP (Par.q intP))))) 4 [.cells 3 1] (u3 zsc) default (LQ.v (Par.ofLP bankL) (LQ.v intP (Par.q intP))) 2 [.cells 3 1]
theorem z4g:zg Tryz.prog 96 (zyb).spec :=
 sK (A:=⟨[],[],[],[[1,2,3,4,8],[1,2,3,4,8,10],[8,9],[1,2,3,4,8,20],[8,9],[2,3,4,8],[4,8],[8,9]],[]⟩) zh16 fM Tryz.func96 (c:=(fb Tryz.f96)) (by kernel_rfl) (Lc:=1) trivial _ _ 5 _ _ _ _ _ _ [] (by rintro ⟨a0,a1,a2⟩;kernel_rfl)
noncomputable def zy17:EnvT:=⟨Tryz.prog,zad [(88,zi7),(89,zjn),(98,znq),(99,zlz)],false⟩
theorem zh17:(zy17).Ok:=zf ⟨zjo,zi6,zqd,zoc,trivial⟩
def zsd (a0:Bank) (a1:Int): Tr (Bank×Int) :=
 (.bind (zfh a0) fun v1 =>
 (.guard (((!v1)=false→((zae a1).isSome=true)∧True))
 (.ite ((!v1)||(!((zae a1).getD default)))
  (.leaf (a0,2))
  (.bind (zeh a0) fun v2 =>
  (.ite (decide (v2.Bonded < a1))
   (.leaf (v2,7))
   (.bind (zeh v2) fun v3 =>
   (.bind (zdr ({ v3 with Bonded:=i64.wrap (v3.Bonded - a1) })) fun v4 =>
   (.leaf ({ v4 with Waiting:=i64.wrap (v4.Waiting+a1) },0)))))))))
def zqf (a0:Bank) (a1:Int):=(zsd a0 a1).run
def zyc:SpecT:=zu 0 (LQ.v (Par.ofLP bankL) (LQ.k (LQ.c (.fn 98 [])) (LQ.k (LQ.c (.fn 99 [])) (Par.q intP)))) 4 [] (u2 zsd) default (LQ.v (Par.ofLP bankL) (Par.q intP)) 2 []
theorem z4h:zg Tryz.prog 96 (zyc).spec :=
 sK (A:=⟨[],[],[],[[1,2,3,4,8],[1,2,3,4,8,10],[8,9],[1,2,3,4,8,20],[8,9],[2,3,4,8],[4,8],[8,9]],[]⟩) zh17 fM Tryz.func96 (c:=(fb Tryz.f96)) (by kernel_rfl) (Lc:=0) trivial _ _ 4 _ _ _ _ _ _ [] (by rintro ⟨a0,a1⟩;kernel_rfl)
noncomputable def zy18:EnvT:=⟨Tryz.prog,zad [(88,zi7),(89,zjn),(99,zlz),(125,zr9)],false⟩
theorem zh18:(zy18).Ok:=zf ⟨zjo,zi6,zoc,zvs,trivial⟩
def zse (a0:Bank) (a1 a2:Int): Tr (Bank×Int×Int) :=
 (.bind (zfh a0) fun v1 =>
 (.guard (((!v1)=false→((zae a1).isSome=true)∧True))
 (.ite ((!v1)||(!((zae a1).getD default)))
  (.leaf (a0,2,a2))
  (.bind (zdr a0) fun v2 =>
  (.ite (decide (v2.Waiting < a1))
   (.leaf (v2,7,a2))
   (.bind (zdr v2) fun v3 =>
   (.bind (zie ({ v3 with Waiting:=i64.wrap (v3.Waiting - a1) }) a2) fun v4 =>
   (.leaf ({ v4.2.1 with Free:=(v4.2.1.Free.set v4.1 (i64.wrap ((v4.2.1.Free.get v4.1)+a1))) },0,v4.2.2)))))))))
def zig (a0:Bank) (a1 a2:Int):=(zse a0 a1 a2).run
def zyd:SpecT:=zu 1 (LQ.v (Par.ofLP bankL) (LQ.k (LQ.c (.fn 99 [])) (LQ.k (LQ.c (.fn 125 [.ptr 0 0])) (LQ.v intP (Par.q intP))))) 4 [.cells 3 1] (u3 zse) default (LQ.v (Par.ofLP bankL) (LQ.v intP (Par.q intP))) 2 [.cells 3 1]
theorem z4i:zg Tryz.prog 96 (zyd).spec :=
 sK (A:=⟨[],[],[],[[1,2,3,4,8],[1,2,3,4,8,10],[8,9],[1,2,3,4,8,20],[8,9],[2,3,4,8],[4,8],[8,9]],[]⟩) zh18 fM Tryz.func96 (c:=(fb Tryz.f96)) (by kernel_rfl) (Lc:=1) trivial _ _ 5 _ _ _ _ _ _ [] (by rintro ⟨a0,a1,a2⟩;kernel_rfl)
noncomputable def zy19:EnvT:=⟨Tryz.prog,zad [(88,zi7),(89,zjn),(98,znq),(100,ztt)],false⟩
theorem zh19:(zy19).Ok:=zf ⟨zjo,zi6,zqd,zya,trivial⟩
def zsf (a0:Bank) (a1:Int): Tr (Bank×Int) :=
 (.bind (zfh a0) fun v1 =>
 (.guard (((!v1)=false→((zae a1).isSome=true)∧True))
 (.ite ((!v1)||(!((zae a1).getD default)))
  (.leaf (a0,2))
  (.bind (zeh a0) fun v2 =>
  (.ite (decide (v2.Bonded < a1))
   (.leaf (v2,7))
   (.bind (zeh v2) fun v3 =>
   (.bind (znr ({ v3 with Bonded:=i64.wrap (v3.Bonded - a1) })) fun v4 =>
   (.leaf ({ v4 with Burnt:=i64.wrap (v4.Burnt+a1) },0)))))))))
def zqg (a0:Bank) (a1:Int):=(zsf a0 a1).run
def zye:SpecT:=zu 0 (LQ.v (Par.ofLP bankL) (LQ.k (LQ.c (.fn 98 [])) (LQ.k (LQ.c (.fn 100 [])) (Par.q intP)))) 4 [] (u2 zsf) default (LQ.v (Par.ofLP bankL) (Par.q intP)) 2 []
theorem z4j:zg Tryz.prog 96 (zye).spec :=
 sK (A:=⟨[],[],[],[[1,2,3,4,8],[1,2,3,4,8,10],[8,9],[1,2,3,4,8,20],[8,9],[2,3,4,8],[4,8],[8,9]],[]⟩) zh19 fM Tryz.func96 (c:=(fb Tryz.f96)) (by kernel_rfl) (Lc:=0) trivial _ _ 4 _ _ _ _ _ _ [] (by rintro ⟨a0,a1⟩;kernel_rfl)
noncomputable def zy20:EnvT:=⟨Tryz.prog,zad [(88,zi7),(89,zjn),(99,zlz),(100,ztt)],false⟩
theorem zh20:(zy20).Ok:=zf ⟨zjo,zi6,zoc,zya,trivial⟩
def zsg (a0:Bank) (a1:Int): Tr (Bank×Int) :=
 (.bind (zfh a0) fun v1 =>
 (.guard (((!v1)=false→((zae a1).isSome=true)∧True))
 (.ite ((!v1)||(!((zae a1).getD default)))
  (.leaf (a0,2))
  (.bind (zdr a0) fun v2 =>
  (.ite (decide (v2.Waiting < a1))
   (.leaf (v2,7))
   (.bind (zdr v2) fun v3 =>
   (.bind (znr ({ v3 with Waiting:=i64.wrap (v3.Waiting - a1) })) fun v4 =>
   (.leaf ({ v4 with Burnt:=i64.wrap (v4.Burnt+a1) },0)))))))))
def zqh (a0:Bank) (a1:Int):=(zsg a0 a1).run
def zyf:SpecT:=zu 0 (LQ.v (Par.ofLP bankL) (LQ.k (LQ.c (.fn 99 [])) (LQ.k (LQ.c (.fn 100 [])) (Par.q intP)))) 4 [] (u2 zsg) default (LQ.v (Par.ofLP bankL) (Par.q intP)) 2 []
theorem z4k:zg Tryz.prog 96 (zyf).spec :=
 sK (A:=⟨[],[],[],[[1,2,3,4,8],[1,2,3,4,8,10],[8,9],[1,2,3,4,8,20],[8,9],[2,3,4,8],[4,8],[8,9]],[]⟩) zh20 fM Tryz.func96 (c:=(fb Tryz.f96)) (by kernel_rfl) (Lc:=0) trivial _ _ 4 _ _ _ _ _ _ [] (by rintro ⟨a0,a1⟩;kernel_rfl)
def zod:SpecT:=altT zyb (altT zyc (altT zyd (altT zye (zyf))))
theorem zpo:zg Tryz.prog 96 (zod).spec:=z6c z4g (z6c z4h (z6c z4i (z6c z4j (z4k))))
noncomputable def zy22:EnvT:=⟨Tryz.prog,zad [(95,zms),(97,zwx),(96,zod)],false⟩
theorem zh22:(zy22).Ok:=zf ⟨zrf,z0k,zpo,trivial⟩
def zwy (a0:Bank) (a1 a2:Int): Tr (Bank×Int) :=
 (.bind (zhp a1) fun v1 =>
 (.ite (!v1)
  (.leaf (a0,4))
  (.guard ((zb2 a1).isSome=true)
  (.guard ((zif a0 a2 ((zb2 a1).getD default)).isSome=true)
  (.leaf ((((zif a0 a2 ((zb2 a1).getD default)).getD default).1),((zif a0 a2 ((zb2 a1).getD default)).getD default).2.1))))))
def zpp (a0:Bank) (a1 a2:Int):=(zwy a0 a1 a2).run
def z2d:SpecT:=zu 0 (LQ.v (Par.ofLP bankL) (LQ.v intP (Par.q intP))) 3 [] (u3 zwy) default (LQ.v (Par.ofLP bankL) (Par.q intP)) 2 []
theorem z82:zg Tryz.prog 62 (z2d).spec :=
 sK (A:=⟨[],[],[],[[1,2,3,6],[1,2,3,6,10],[6,7],[6,7]],[]⟩) zh22 fM Tryz.func62 (c:=(fb Tryz.f62)) (by kernel_rfl) (Lc:=0) trivial _ _ 5 _ _ _ _ _ _ [] (by rintro ⟨a0,a1,a2⟩;kernel_rfl)
noncomputable def zy23:EnvT:=⟨Tryz.prog,zad [(96,zod)],false⟩
theorem zh23:(zy23).Ok:=zf ⟨zpo,trivial⟩
def zsh (a0:Bank) (a1:Int): Tr (Bank×Int) :=
 (.bind (zqf a0 a1) fun v2 =>
 (.leaf (v2.1,v2.2)))
def zih (a0:Bank) (a1:Int):=(zsh a0 a1).run
def zyg:SpecT:=zu 0 (LQ.v (Par.ofLP bankL) (Par.q intP)) 2 [] (u2 zsh) default (LQ.v (Par.ofLP bankL) (Par.q intP)) 2 []
theorem z4l:zg Tryz.prog 63 (zyg).spec :=
 sK (A:=⟨[],[],[],[[1,2,4],[4,5]],[]⟩) zh23 fM Tryz.func63 (c:=(fb Tryz.f63)) (by kernel_rfl) (Lc:=0) trivial _ _ 4 _ _ _ _ _ _ [] (by rintro ⟨a0,a1⟩;kernel_rfl)
noncomputable def zy24:EnvT:=⟨Tryz.prog,zad [(95,zms),(97,zwx),(96,zod)],false⟩
theorem zh24:(zy24).Ok:=zf ⟨zrf,z0k,zpo,trivial⟩
def zzo (a0:Bank) (a1 a2:Int): Tr (Bank×Int) :=
 (.bind (zhp a1) fun v1 =>
 (.ite (!v1)
  (.leaf (a0,4))
  (.guard ((zb2 a1).isSome=true)
  (.guard ((zig a0 a2 ((zb2 a1).getD default)).isSome=true)
  (.leaf ((((zig a0 a2 ((zb2 a1).getD default)).getD default).1),((zig a0 a2 ((zb2 a1).getD default)).getD default).2.1))))))
def zwz (a0:Bank) (a1 a2:Int):=(zzo a0 a1 a2).run
def z5f:SpecT:=zu 0 (LQ.v (Par.ofLP bankL) (LQ.v intP (Par.q intP))) 3 [] (u3 zzo) default (LQ.v (Par.ofLP bankL) (Par.q intP)) 2 []
theorem zabo:zg Tryz.prog 107 (z5f).spec :=
 sK (A:=⟨[],[],[],[[1,2,3,6],[1,2,3,6,10],[6,7],[6,7]],[]⟩) zh24 fM Tryz.func107 (c:=(fb Tryz.f107)) (by kernel_rfl) (Lc:=0) trivial _ _ 5 _ _ _ _ _ _ [] (by rintro ⟨a0,a1,a2⟩;kernel_rfl)
noncomputable def zy25:EnvT:=⟨Tryz.prog,zad [(96,zod)],false⟩
theorem zh25:(zy25).Ok:=zf ⟨zpo,trivial⟩
def zw0 (a0:Bank) (a1 a2:Int): Tr (Bank×Int) :=
 (.bind (zqg a0 a1) fun v4 =>
 (.ite (v4.2 != 0)
  (.leaf (a0,v4.2))
  (.bind (zqh v4.1 a2) fun v9 =>
  (.ite (v9.2 != 0)
   (.leaf (a0,v9.2))
   (.leaf (v9.1,0))))))
def ztu (a0:Bank) (a1 a2:Int):=(zw0 a0 a1 a2).run
def z2e:SpecT:=zu 0 (LQ.v (Par.ofLP bankL) (LQ.v intP (Par.q intP))) 3 [] (u3 zw0) default (LQ.v (Par.ofLP bankL) (Par.q intP)) 2 []
theorem z83:zg Tryz.prog 66 (z2e).spec :=
 sK (A:=⟨[],[],[],[[1,2,3,6],[2,3,6,8,9],[2,3,6,8,9,17],[6,7],[3,6,8,9],[3,6,8,9,27],[6,7],[6,7]],[]⟩) zh25 fM Tryz.func66 (c:=(fb Tryz.f66)) (by kernel_rfl) (Lc:=0) trivial _ _ 5 _ _ _ _ _ _ [] (by rintro ⟨a0,a1,a2⟩;kernel_rfl)
def zk5 (a0:Int): Tr (Int) :=
 (.guard ((5:Int)≠0)
 (.leaf (if (i64.wrap (Int.tdiv a0 5)) > 1 then (i64.wrap (Int.tdiv a0 5)) else 1)))
def zj1 (a0:Int):=(zk5 a0).run
def zrg:SpecT:=zu 0 (Par.q intP) 1 [] zk5 default (Par.q intP) 1 []
theorem zyh:zg Tryz.prog 87 (zrg).spec :=
 sK (A:=⟨[],[],[],[[0],[2]],[]⟩) zhN fM Tryz.func87 (c:=(fb Tryz.f87)) (by kernel_rfl) (Lc:=0) trivial _ _ 2 _ _ _ _ _ _ [] (by rintro a0;kernel_rfl)
noncomputable def zy27:EnvT:=⟨Tryz.prog,zad [(87,zrg)],false⟩
theorem zh27:(zy27).Ok:=zf ⟨zyh,trivial⟩
def zw1 (a0 a1:Int): Tr (Meter) :=
 (.bind (zj1 a0) fun v1 =>
 (.leaf (⟨v1,i64.wrap (a1+10)⟩:Meter)))
def zpq (a0 a1:Int):=(zw1 a0 a1).run
def zw2:SpecT:=zu 0 (LQ.v intP (Par.q intP)) 2 [] (u2 zw1) default (Par.q (Par.ofLP meterL)) 1 []
theorem z0l:zg Tryz.prog 55 (zw2).spec :=
 sK (A:=⟨[],[],[],[[0,1,4],[4]],[]⟩) zh27 fM Tryz.func55 (c:=(fb Tryz.f55)) (by kernel_rfl) (Lc:=0) trivial _ _ 3 _ _ _ _ _ _ [] (by rintro ⟨a0,a1⟩;kernel_rfl)
noncomputable def zy28:EnvT:=⟨Tryz.prog,zad [(55,zw2)],false⟩
theorem zh28:(zy28).Ok:=zf ⟨z0l,trivial⟩
def ztv (a0:Meter) (a1 a2:Int): Tr (Meter) :=
 (.ite (decide (a2≥a0.Next))
  (.bind (zpq a1 a2) fun v1 =>
  (.leaf v1))
  (.leaf a0))
def zns (a0:Meter) (a1 a2:Int):=(ztv a0 a1 a2).run
def z0m:SpecT:=zu 0 (LQ.v (Par.ofLP meterL) (LQ.v intP (Par.q intP))) 3 [] (u3 ztv) default (Par.q (Par.ofLP meterL)) 1 []
theorem z67:zg Tryz.prog 67 (z0m).spec :=
 sK (A:=⟨[],[],[],[[1,2,3,6],[1,2,3,6,10],[6],[6]],[]⟩) zh28 fM Tryz.func67 (c:=(fb Tryz.f67)) (by kernel_rfl) (Lc:=0) trivial _ _ 4 _ _ _ _ _ _ [] (by rintro ⟨a0,a1,a2⟩;kernel_rfl)
def ztw (a0:Meter) (a1:Int): Tr (Meter×Bool) :=
 (.ite (decide (a0.Left≤0))
  (.leaf (a0,false))
  (.leaf ((⟨i64.wrap (a0.Left - a1),a0.Next⟩:Meter),true)))
def zhq (a0:Meter) (a1:Int):=(ztw a0 a1).run
def z0n:SpecT:=zu 0 (LQ.v (Par.ofLP meterL) (Par.q intP)) 2 [] (u2 ztw) default (LQ.v (Par.ofLP meterL) (Par.q boolP)) 2 []
theorem z68:zg Tryz.prog 102 (z0n).spec :=
 sK (A:=⟨[],[],[],[[1,2,4],[1,2,4,8],[4,5],[2,4],[4,5]],[]⟩) zhN fM Tryz.func102 (c:=(fb Tryz.f102)) (by kernel_rfl) (Lc:=0) trivial _ _ 4 _ _ _ _ _ _ [] (by rintro ⟨a0,a1⟩;kernel_rfl)
end
