/-
  The functions, each by its tree.
-/
import Derived.Test.YtobfadhgiaphnaaGreatXAbFun
import Derived.Test.YtobfadhgiaphnaaGreatXAbStructs
import Derived.Test.YtobfadhgiaphnaaGreatXFRatio
import Derived.Test.YtobfadhgiaphnaaGreatXFacts
namespace Go.Proofs.YtobfadhgiaphnaaGreat.Ab
open Go Go.RowKit
set_option maxRecDepth 100000
set_option linter.unusedVariables false
set_option linter.unusedSimpArgs false
noncomputable section
def zv7:List (List Nat):=[[0],[0,1],[0,1,3],[0,1,3,4],[0,1,2,3],[0,1,3],[0,1,3],[0]]
def zg0 (x0:Int) (x1 x2:Bank): Tr ((Int×Bank×Bank)⊕(Bank×Bank)) :=
 (.ite (decide (x0 < 4))
  (.guard ((0:Int)≤x0∧(x0:Int) < 4)
  (.leaf (.inl (IntKind.i64.wrap (x0+1),x1,{ x2 with Free:=(x2.Free.set x0 100000) }))))
  (.leaf (.inr (x1,x2))))
def zuu (x0:Int) (x1 x2:Bank):=zbp (fun s:Int×Bank×Bank=>(zg0 s.1 s.2.1 s.2.2).run) (x0,x1,x2)
def za7a:Ann:=⟨[],[],[],zv7,[]⟩
def zq7a:=EndD.mk (LQ.kp 0 0 (LQ.kp 1 0 (LQ.v intP (LQ.seq (LP.q bankL) (LP.q bankL))))) ⟨[0,1,3],[]⟩ [.cells 40 7,.cells 40 7]
def za5l:=EndD.mk (LQ.kp 0 0 (LQ.kp 1 0 (LQ.seq (LP.q bankL) (LP.q bankL)))) ⟨[0,1],[]⟩ [.cells 40 7,.cells 40 7]
def zl7a:St→Option LR:=L1 11 4 0 zq7a (.exit 0) za5l (u3 zg0)
def zs7a:=sub (fb Tryz.f140) [0,1,0,1,1]
theorem zk7a:zk (zyN).env 0 zs7a zl7a :=
 zb2 (A:=za7a) zhN fM trivial (k:=zab zs7a) (by kernel_rfl) rfl (by rintro ⟨x0,x1,x2⟩;kernel_rfl)
def z61  : Tr (Bank) :=
 (.bind (zuu 0 (⟨(⟨0,0,0,0⟩:(A4 Int)),0,0,0⟩:Bank) (⟨(⟨0,0,0,0⟩:(A4 Int)),0,0,0⟩:Bank)) fun v1 =>
 (.leaf v1.2))
def z3f  := (z61 ).run
def zad7:SpecT:=zm 0 LQ.nil 0 [] (fun s=>z61 ) default (Par.q (Par.ofLP bankL)) 1 []
theorem zaks:ze Tryz.prog 140 (zad7).spec :=
 sK (A:=⟨[([0,1,0,1,1],zl7a)],[],[],zv7,[]⟩) zhN fM Tryz.func140 (c:=(fb Tryz.f140)) (by kernel_rfl) (Lc:=0) ⟨zk7a,trivial⟩ _ _ 4 _ _ _ _ _ _ [] (by rintro _;kernel_rfl)
def zv8:List (List Nat):=[[1],[1,3],[3,15,16],[3,15,16,17],[3,5,15,16],[3,15,16],[3,15,16],[2]]
def zg1 (x0:Int) (x1:(A4 Int)) (x2:Int): Tr ((Int×(A4 Int)×Int)⊕(Int)) :=
 (.ite (decide (x2 < 4))
  (.guard ((0:Int)≤x2∧(x2:Int) < 4)
  (.leaf (.inl (IntKind.i64.wrap (x0+(x1.get x2)),x1,IntKind.i64.wrap (x2+1)))))
  (.leaf (.inr x0)))
def zuv (x0:Int) (x1:(A4 Int)) (x2:Int):=zbp (fun s:Int×(A4 Int)×Int=>(zg1 s.1 s.2.1 s.2.2).run) (x0,x1,x2)
def za8a:Ann:=⟨[],[],[],zv8,[]⟩
def zq8a:=EndD.mk (LQ.v intP (LQ.seq (Par.q (Par.ofLP (a4L (LP.one intP)))) (Par.q intP))) ⟨[3,15,16],[]⟩ []
def za5m:=EndD.mk (Par.q intP) ⟨[3],[]⟩ []
def zl8a:St→Option LR:=L1 24 3 0 zq8a (.exit 0) za5m (u3 zg1)
def zs8a:=sub (fb Tryz.f184) [0,1,0,1,1]
theorem zk8a:zk (zyN).env 0 zs8a zl8a :=
 zb2 (A:=za8a) zhN fM trivial (k:=zab zs8a) (by kernel_rfl) rfl (by rintro ⟨x0,x1,x2⟩;kernel_rfl)
def z62 (a0:Bank): Tr (Int) :=
 (.bind (zuv (IntKind.i64.wrap ((IntKind.i64.wrap (a0.Bonded+a0.Waiting))+a0.Burnt)) a0.Free 0) fun v1 =>
 (.leaf v1))
def z3g (a0:Bank):=(z62 a0).run
def zad8:SpecT:=zm 0 (Par.q (Par.ofLP bankL)) 1 [] z62 default (Par.q intP) 1 []
theorem zakt:ze Tryz.prog 184 (zad8).spec :=
 sK (A:=⟨[([0,1,0,1,1],zl8a)],[],[],zv8,[]⟩) zhN fM Tryz.func184 (c:=(fb Tryz.f184)) (by kernel_rfl) (Lc:=0) ⟨zk8a,trivial⟩ _ _ 3 _ _ _ _ _ _ [] (by rintro a0;kernel_rfl)
def zv9:List (List Nat):=[[1],[1,14,15,16],[1,14,15,16,17],[1,4,14,15,16],[1,14,15,16,25],[2],[1,14,15,16],[2]]
noncomputable def zy9:EnvT:=⟨Tryz.prog,zw [(184,zad8)]⟩
theorem zh9:(zy9).Ok:=zd ⟨zakt,trivial⟩
def zks (x0 x1:Int) (x2:Bank) (x3:(List Int)): Tr ((Int×Int×Bank×(List Int))⊕((Bool)⊕(Bank))) :=
 (.ite (decide (x1 < x0))
  (.guard ((0:Int)≤x1∧x1 < ((Sl.len (.ints x3):Nat):Int))
  (.ite ((decide ((x3.getD x1.toNat 0) < 0))||(decide ((x3.getD x1.toNat 0) > 400000)))
   (.leaf (.inr (.inl false)))
   (.leaf (.inl (x0,IntKind.i64.wrap (x1+1),x2,x3)))))
  (.leaf (.inr (.inr x2))))
def zzq (x0 x1:Int) (x2:Bank) (x3:(List Int)):=zbp (fun s:Int×Int×Bank×(List Int)=>(zks s.1 s.2.1 s.2.2.1 s.2.2.2).run) (x0,x1,x2,x3)
def za9a:Ann:=⟨[],[],[],zv9,[]⟩
def zq9a:=EndD.mk (LQ.kp 0 0 (LQ.k (LQ.c (.own 1)) (LQ.v intP (LQ.v intP (LQ.seq (LP.q bankL) (Par.q zbc)))))) ⟨[1,14,15,16],[.nilown 14 3 (.ints [])]⟩ [.cells 40 7,.rows 3]
def za5n:=EndD.mk (Par.q boolP) ⟨[2],[]⟩ []
def za5o:=EndD.mk (LQ.kp 0 0 (LP.q bankL)) ⟨[1],[]⟩ [.cells 40 7]
def zl9a:St→Option LR:=L2 30 5 0 zq9a .ret za5n (.exit 0) za5o (u4 zks)
def zs9a:=sub (fb Tryz.f147) [0,1,0,1]
theorem zk9a:zk (zy9).env 0 zs9a zl9a :=
 zkf (A:=za9a) zh9 fM trivial (k:=zab zs9a) (by kernel_rfl) rfl rfl (by rintro ⟨x0,x1,x2,x3⟩;kernel_rfl)
def z3h (a0:Bank): Tr (Bool) :=
 (.guard ((Sl.len (.ints [a0.Free.x0,a0.Free.x1,a0.Free.x2,a0.Free.x3])+Sl.len (.ints [a0.Bonded,a0.Waiting,a0.Burnt]))*8≤140737488355328)
 (.guard (0 < Sl.len (.ints [a0.Bonded,a0.Waiting,a0.Burnt]))
 (.two (zzq ((([a0.Free.x0,a0.Free.x1,a0.Free.x2,a0.Free.x3]++[a0.Bonded,a0.Waiting,a0.Burnt]).length:Nat):Int) 0 a0 ([a0.Free.x0,a0.Free.x1,a0.Free.x2,a0.Free.x3]++[a0.Bonded,a0.Waiting,a0.Burnt])) (fun v1 =>
  (.leaf v1)) (fun v2 =>
  (.bind (z3g v2) fun v3 =>
  (.leaf (v3==400000)))))))
def zgt (a0:Bank):=(z3h a0).run
def zlp:SpecT:=zm 0 (Par.q (Par.ofLP bankL)) 1 [] z3h default (Par.q boolP) 1 []
theorem zma:ze Tryz.prog 147 (zlp).spec :=
 sK (A:=⟨[([0,1,0,1],zl9a)],[],[],zv9,[]⟩) zh9 fM Tryz.func147 (c:=(fb Tryz.f147)) (by kernel_rfl) (Lc:=0) ⟨zk9a,trivial⟩ _ _ 5 _ _ _ _ _ _ [] (by rintro a0;kernel_rfl)
def zlc (a0:Int): Tr (Bool) :=
 (.leaf ((decide (a0≥0))&&(decide (a0 < 4))))
def zjx (a0:Int):=(zlc a0).run
def zqd:SpecT:=zm 0 (Par.q intP) 1 [] zlc default (Par.q boolP) 1 []
theorem zwa:ze Tryz.prog 155 (zqd).spec :=
 sK (A:=⟨[],[],[],[[0],[2]],[]⟩) zhN fM Tryz.func155 (c:=(fb Tryz.f155)) (by kernel_rfl) (Lc:=0) trivial _ _ 2 _ _ _ _ _ _ [] (by rintro a0;kernel_rfl)
def zxc (a0:Bank) (a1:Int): Tr (Int×Bank×Int) :=
 (.guard ((0:Int)≤a1∧(a1:Int) < 4)
 (.leaf (a1,a0,a1)))
def zkt (a0:Bank) (a1:Int):=(zxc a0 a1).run
def zxd:SpecT:=zm 2 (LQ.kp 0 0 (LQ.kp 1 0 (LQ.seq (LP.q bankL) (Par.q intP)))) 2 [.cells 40 7,.cells 3 1] (u2 zxc) default (LQ.seq (LQ.pix1 0 0 4 1 0) (LQ.seq (LP.q bankL) (Par.q intP))) 1 [.cells 40 7,.cells 3 1]
theorem z2a:ze Tryz.prog 187 (zxd).spec :=
 sK (A:=⟨[],[],[],[[0,1],[3]],[]⟩) zhN fM Tryz.func187 (c:=(fb Tryz.f187)) (by kernel_rfl) (Lc:=2) trivial _ _ 4 _ _ _ _ _ _ [] (by rintro ⟨a0,a1⟩;kernel_rfl)
def zxe (a0:Int): Tr (Int) :=
 (.leaf a0)
def zc5 (a0:Int):=(zxe a0).run
def z3i:SpecT:=zm 0 (Par.q intP) 1 [] zxe default (LQ.k (LQ.c (.fn 187 [.ptr 0 0])) (Par.q intP)) 1 [.cells 3 1]
theorem z75:ze Tryz.prog 157 (z3i).spec :=
 sK (A:=⟨[],[],[],[[1],[2]],[]⟩) zhN fM Tryz.func157 (c:=(fb Tryz.f157)) (by kernel_rfl) (Lc:=0) trivial _ _ 3 _ _ _ _ _ _ [] (by rintro a0;kernel_rfl)
def zxf (a0:Bank): Tr (Bank) :=
 (.leaf a0)
def zfr (a0:Bank):=(zxf a0).run
def zrn:SpecT:=zm 1 (LQ.kp 0 0 (LP.q bankL)) 1 [.cells 40 7] zxf default (LQ.kp 0 4 (LP.q bankL)) 1 [.cells 40 7]
theorem zuw:ze Tryz.prog 158 (zrn).spec :=
 sK (A:=⟨[],[],[],[[0],[2]],[]⟩) zhN fM Tryz.func158 (c:=(fb Tryz.f158)) (by kernel_rfl) (Lc:=1) trivial _ _ 3 _ _ _ _ _ _ [] (by rintro a0;kernel_rfl)
def zux (a0:Bank): Tr (Bank) :=
 (.leaf a0)
def zeu (a0:Bank):=(zux a0).run
def zpa:SpecT:=zm 1 (LQ.kp 0 0 (LP.q bankL)) 1 [.cells 40 7] zux default (LQ.kp 0 5 (LP.q bankL)) 1 [.cells 40 7]
theorem zse:ze Tryz.prog 159 (zpa).spec :=
 sK (A:=⟨[],[],[],[[0],[2]],[]⟩) zhN fM Tryz.func159 (c:=(fb Tryz.f159)) (by kernel_rfl) (Lc:=1) trivial _ _ 3 _ _ _ _ _ _ [] (by rintro a0;kernel_rfl)
def zzr (a0:Bank): Tr (Bank) :=
 (.leaf a0)
def zro (a0:Bank):=(zzr a0).run
def zzs:SpecT:=zm 1 (LQ.kp 0 0 (LP.q bankL)) 1 [.cells 40 7] zzr default (LQ.kp 0 6 (LP.q bankL)) 1 [.cells 40 7]
theorem z5c:ze Tryz.prog 160 (zzs).spec :=
 sK (A:=⟨[],[],[],[[0],[2]],[]⟩) zhN fM Tryz.func160 (c:=(fb Tryz.f160)) (by kernel_rfl) (Lc:=1) trivial _ _ 3 _ _ _ _ _ _ [] (by rintro a0;kernel_rfl)
noncomputable def zy16:EnvT:=⟨Tryz.prog,zw [(147,zlp),(148,zl9),(187,zxd),(158,zrn)]⟩
theorem zh16:(zy16).Ok:=zd ⟨zma,zlo,z2a,zuw,trivial⟩
def zxg (a0:Bank) (a1 a2:Int): Tr (Bank×Int×Int) :=
 (.bind (zgt a0) fun v1 =>
 (.guard (((!v1)=false→((zai a1).isSome=true)∧True))
 (.ite ((!v1)||(!((zai a1).getD default)))
  (.leaf (a0,2,a2))
  (.bind (zkt a0 a2) fun v2 =>
  (.ite (decide ((v2.2.1.Free.get v2.1) < a1))
   (.leaf (v2.2.1,7,v2.2.2))
   (.bind (zkt v2.2.1 v2.2.2) fun v3 =>
   (.bind (zfr ({ v3.2.1 with Free:=(v3.2.1.Free.set v3.1 (IntKind.i64.wrap ((v3.2.1.Free.get v3.1) - a1))) })) fun v4 =>
   (.leaf ({ v4 with Bonded:=IntKind.i64.wrap (v4.Bonded+a1) },0,v3.2.2)))))))))
def zku (a0:Bank) (a1 a2:Int):=(zxg a0 a1 a2).run
def z5d:SpecT:=zm 1 (LQ.v (Par.ofLP bankL) (LQ.k (LQ.c (.fn 187 [.ptr 0 0])) (LQ.k (LQ.c (.fn 158 [])) (LQ.v intP (Par.q intP))))) 4 [.cells 3 1] (u3 zxg) default (LQ.v (Par.ofLP bankL) (LQ.v intP (Par.q intP))) 2 [.cells 3 1]
theorem zac2:ze Tryz.prog 156 (z5d).spec :=
 sK (A:=⟨[],[],[],[[1,2,3,4,8],[1,2,3,4,8,10],[8,9],[1,2,3,4,8,20],[8,9],[2,3,4,8],[4,8],[8,9]],[]⟩) zh16 fM Tryz.func156 (c:=(fb Tryz.f156)) (by kernel_rfl) (Lc:=1) trivial _ _ 5 _ _ _ _ _ _ [] (by rintro ⟨a0,a1,a2⟩;kernel_rfl)
noncomputable def zy17:EnvT:=⟨Tryz.prog,zw [(147,zlp),(148,zl9),(158,zrn),(159,zpa)]⟩
theorem zh17:(zy17).Ok:=zd ⟨zma,zlo,zuw,zse,trivial⟩
def zxh (a0:Bank) (a1:Int): Tr (Bank×Int) :=
 (.bind (zgt a0) fun v1 =>
 (.guard (((!v1)=false→((zai a1).isSome=true)∧True))
 (.ite ((!v1)||(!((zai a1).getD default)))
  (.leaf (a0,2))
  (.bind (zfr a0) fun v2 =>
  (.ite (decide (v2.Bonded < a1))
   (.leaf (v2,7))
   (.bind (zfr v2) fun v3 =>
   (.bind (zeu ({ v3 with Bonded:=IntKind.i64.wrap (v3.Bonded - a1) })) fun v4 =>
   (.leaf ({ v4 with Waiting:=IntKind.i64.wrap (v4.Waiting+a1) },0)))))))))
def zuy (a0:Bank) (a1:Int):=(zxh a0 a1).run
def z5e:SpecT:=zm 0 (LQ.v (Par.ofLP bankL) (LQ.k (LQ.c (.fn 158 [])) (LQ.k (LQ.c (.fn 159 [])) (Par.q intP)))) 4 [] (u2 zxh) default (LQ.v (Par.ofLP bankL) (Par.q intP)) 2 []
theorem zac3:ze Tryz.prog 156 (z5e).spec :=
 sK (A:=⟨[],[],[],[[1,2,3,4,8],[1,2,3,4,8,10],[8,9],[1,2,3,4,8,20],[8,9],[2,3,4,8],[4,8],[8,9]],[]⟩) zh17 fM Tryz.func156 (c:=(fb Tryz.f156)) (by kernel_rfl) (Lc:=0) trivial _ _ 4 _ _ _ _ _ _ [] (by rintro ⟨a0,a1⟩;kernel_rfl)
noncomputable def zy18:EnvT:=⟨Tryz.prog,zw [(147,zlp),(148,zl9),(159,zpa),(187,zxd)]⟩
theorem zh18:(zy18).Ok:=zd ⟨zma,zlo,zse,z2a,trivial⟩
def zxi (a0:Bank) (a1 a2:Int): Tr (Bank×Int×Int) :=
 (.bind (zgt a0) fun v1 =>
 (.guard (((!v1)=false→((zai a1).isSome=true)∧True))
 (.ite ((!v1)||(!((zai a1).getD default)))
  (.leaf (a0,2,a2))
  (.bind (zeu a0) fun v2 =>
  (.ite (decide (v2.Waiting < a1))
   (.leaf (v2,7,a2))
   (.bind (zeu v2) fun v3 =>
   (.bind (zkt ({ v3 with Waiting:=IntKind.i64.wrap (v3.Waiting - a1) }) a2) fun v4 =>
   (.leaf ({ v4.2.1 with Free:=(v4.2.1.Free.set v4.1 (IntKind.i64.wrap ((v4.2.1.Free.get v4.1)+a1))) },0,v4.2.2)))))))))
def zkv (a0:Bank) (a1 a2:Int):=(zxi a0 a1 a2).run
def z5f:SpecT:=zm 1 (LQ.v (Par.ofLP bankL) (LQ.k (LQ.c (.fn 159 [])) (LQ.k (LQ.c (.fn 187 [.ptr 0 0])) (LQ.v intP (Par.q intP))))) 4 [.cells 3 1] (u3 zxi) default (LQ.v (Par.ofLP bankL) (LQ.v intP (Par.q intP))) 2 [.cells 3 1]
theorem zac4:ze Tryz.prog 156 (z5f).spec :=
 sK (A:=⟨[],[],[],[[1,2,3,4,8],[1,2,3,4,8,10],[8,9],[1,2,3,4,8,20],[8,9],[2,3,4,8],[4,8],[8,9]],[]⟩) zh18 fM Tryz.func156 (c:=(fb Tryz.f156)) (by kernel_rfl) (Lc:=1) trivial _ _ 5 _ _ _ _ _ _ [] (by rintro ⟨a0,a1,a2⟩;kernel_rfl)
noncomputable def zy19:EnvT:=⟨Tryz.prog,zw [(147,zlp),(148,zl9),(158,zrn),(160,zzs)]⟩
theorem zh19:(zy19).Ok:=zd ⟨zma,zlo,zuw,z5c,trivial⟩
def zxj (a0:Bank) (a1:Int): Tr (Bank×Int) :=
 (.bind (zgt a0) fun v1 =>
 (.guard (((!v1)=false→((zai a1).isSome=true)∧True))
 (.ite ((!v1)||(!((zai a1).getD default)))
  (.leaf (a0,2))
  (.bind (zfr a0) fun v2 =>
  (.ite (decide (v2.Bonded < a1))
   (.leaf (v2,7))
   (.bind (zfr v2) fun v3 =>
   (.bind (zro ({ v3 with Bonded:=IntKind.i64.wrap (v3.Bonded - a1) })) fun v4 =>
   (.leaf ({ v4 with Burnt:=IntKind.i64.wrap (v4.Burnt+a1) },0)))))))))
def zuz (a0:Bank) (a1:Int):=(zxj a0 a1).run
def z5g:SpecT:=zm 0 (LQ.v (Par.ofLP bankL) (LQ.k (LQ.c (.fn 158 [])) (LQ.k (LQ.c (.fn 160 [])) (Par.q intP)))) 4 [] (u2 zxj) default (LQ.v (Par.ofLP bankL) (Par.q intP)) 2 []
theorem zac5:ze Tryz.prog 156 (z5g).spec :=
 sK (A:=⟨[],[],[],[[1,2,3,4,8],[1,2,3,4,8,10],[8,9],[1,2,3,4,8,20],[8,9],[2,3,4,8],[4,8],[8,9]],[]⟩) zh19 fM Tryz.func156 (c:=(fb Tryz.f156)) (by kernel_rfl) (Lc:=0) trivial _ _ 4 _ _ _ _ _ _ [] (by rintro ⟨a0,a1⟩;kernel_rfl)
noncomputable def zy20:EnvT:=⟨Tryz.prog,zw [(147,zlp),(148,zl9),(159,zpa),(160,zzs)]⟩
theorem zh20:(zy20).Ok:=zd ⟨zma,zlo,zse,z5c,trivial⟩
def zxk (a0:Bank) (a1:Int): Tr (Bank×Int) :=
 (.bind (zgt a0) fun v1 =>
 (.guard (((!v1)=false→((zai a1).isSome=true)∧True))
 (.ite ((!v1)||(!((zai a1).getD default)))
  (.leaf (a0,2))
  (.bind (zeu a0) fun v2 =>
  (.ite (decide (v2.Waiting < a1))
   (.leaf (v2,7))
   (.bind (zeu v2) fun v3 =>
   (.bind (zro ({ v3 with Waiting:=IntKind.i64.wrap (v3.Waiting - a1) })) fun v4 =>
   (.leaf ({ v4 with Burnt:=IntKind.i64.wrap (v4.Burnt+a1) },0)))))))))
def zu0 (a0:Bank) (a1:Int):=(zxk a0 a1).run
def z5h:SpecT:=zm 0 (LQ.v (Par.ofLP bankL) (LQ.k (LQ.c (.fn 159 [])) (LQ.k (LQ.c (.fn 160 [])) (Par.q intP)))) 4 [] (u2 zxk) default (LQ.v (Par.ofLP bankL) (Par.q intP)) 2 []
theorem zac6:ze Tryz.prog 156 (z5h).spec :=
 sK (A:=⟨[],[],[],[[1,2,3,4,8],[1,2,3,4,8,10],[8,9],[1,2,3,4,8,20],[8,9],[2,3,4,8],[4,8],[8,9]],[]⟩) zh20 fM Tryz.func156 (c:=(fb Tryz.f156)) (by kernel_rfl) (Lc:=0) trivial _ _ 4 _ _ _ _ _ _ [] (by rintro ⟨a0,a1⟩;kernel_rfl)
def zsf:SpecT:=altT z5d (altT z5e (altT z5f (altT z5g (z5h))))
theorem zt6:ze Tryz.prog 156 (zsf).spec:=zafd zac2 (zafd zac3 (zafd zac4 (zafd zac5 (zac6))))
noncomputable def zy22:EnvT:=⟨Tryz.prog,zw [(155,zqd),(157,z3i),(156,zsf)]⟩
theorem zh22:(zy22).Ok:=zd ⟨zwa,z75,zt6,trivial⟩
def z3j (a0:Bank) (a1 a2:Int): Tr (Bank×Int) :=
 (.bind (zjx a1) fun v1 =>
 (.ite (!v1)
  (.leaf (a0,4))
  (.guard ((zc5 a1).isSome=true)
  (.guard ((zku a0 a2 ((zc5 a1).getD default)).isSome=true)
  (.leaf ((((zku a0 a2 ((zc5 a1).getD default)).getD default).1),((zku a0 a2 ((zc5 a1).getD default)).getD default).2.1))))))
def zt7 (a0:Bank) (a1 a2:Int):=(z3j a0 a1 a2).run
def zaao:SpecT:=zm 0 (LQ.v (Par.ofLP bankL) (LQ.v intP (Par.q intP))) 3 [] (u3 z3j) default (LQ.v (Par.ofLP bankL) (Par.q intP)) 2 []
theorem zaia:ze Tryz.prog 116 (zaao).spec :=
 sK (A:=⟨[],[],[],[[1,2,3,6],[1,2,3,6,10],[6,7],[6,7]],[]⟩) zh22 fM Tryz.func116 (c:=(fb Tryz.f116)) (by kernel_rfl) (Lc:=0) trivial _ _ 5 _ _ _ _ _ _ [] (by rintro ⟨a0,a1,a2⟩;kernel_rfl)
noncomputable def zy23:EnvT:=⟨Tryz.prog,zw [(156,zsf)]⟩
theorem zh23:(zy23).Ok:=zd ⟨zt6,trivial⟩
def zxl (a0:Bank) (a1:Int): Tr (Bank×Int) :=
 (.bind (zuy a0 a1) fun v2 =>
 (.leaf (v2.1,v2.2)))
def zkw (a0:Bank) (a1:Int):=(zxl a0 a1).run
def z5i:SpecT:=zm 0 (LQ.v (Par.ofLP bankL) (Par.q intP)) 2 [] (u2 zxl) default (LQ.v (Par.ofLP bankL) (Par.q intP)) 2 []
theorem zac7:ze Tryz.prog 117 (z5i).spec :=
 sK (A:=⟨[],[],[],[[1,2,4],[4,5]],[]⟩) zh23 fM Tryz.func117 (c:=(fb Tryz.f117)) (by kernel_rfl) (Lc:=0) trivial _ _ 4 _ _ _ _ _ _ [] (by rintro ⟨a0,a1⟩;kernel_rfl)
noncomputable def zy24:EnvT:=⟨Tryz.prog,zw [(155,zqd),(157,z3i),(156,zsf)]⟩
theorem zh24:(zy24).Ok:=zd ⟨zwa,z75,zt6,trivial⟩
def z63 (a0:Bank) (a1 a2:Int): Tr (Bank×Int) :=
 (.bind (zjx a1) fun v1 =>
 (.ite (!v1)
  (.leaf (a0,4))
  (.guard ((zc5 a1).isSome=true)
  (.guard ((zkv a0 a2 ((zc5 a1).getD default)).isSome=true)
  (.leaf ((((zkv a0 a2 ((zc5 a1).getD default)).getD default).1),((zkv a0 a2 ((zc5 a1).getD default)).getD default).2.1))))))
def z3k (a0:Bank) (a1 a2:Int):=(z63 a0 a1 a2).run
def zad9:SpecT:=zm 0 (LQ.v (Par.ofLP bankL) (LQ.v intP (Par.q intP))) 3 [] (u3 z63) default (LQ.v (Par.ofLP bankL) (Par.q intP)) 2 []
theorem zaku:ze Tryz.prog 167 (zad9).spec :=
 sK (A:=⟨[],[],[],[[1,2,3,6],[1,2,3,6,10],[6,7],[6,7]],[]⟩) zh24 fM Tryz.func167 (c:=(fb Tryz.f167)) (by kernel_rfl) (Lc:=0) trivial _ _ 5 _ _ _ _ _ _ [] (by rintro ⟨a0,a1,a2⟩;kernel_rfl)
noncomputable def zy25:EnvT:=⟨Tryz.prog,zw [(156,zsf)]⟩
theorem zh25:(zy25).Ok:=zd ⟨zt6,trivial⟩
def z3l (a0:Bank) (a1 a2:Int): Tr (Bank×Int) :=
 (.bind (zuz a0 a1) fun v4 =>
 (.ite (v4.2 != 0)
  (.leaf (a0,v4.2))
  (.bind (zu0 v4.1 a2) fun v9 =>
  (.ite (v9.2 != 0)
   (.leaf (a0,v9.2))
   (.leaf (v9.1,0))))))
def zzt (a0:Bank) (a1 a2:Int):=(z3l a0 a1 a2).run
def zaap:SpecT:=zm 0 (LQ.v (Par.ofLP bankL) (LQ.v intP (Par.q intP))) 3 [] (u3 z3l) default (LQ.v (Par.ofLP bankL) (Par.q intP)) 2 []
theorem zaib:ze Tryz.prog 120 (zaap).spec :=
 sK (A:=⟨[],[],[],[[1,2,3,6],[2,3,6,8,9],[2,3,6,8,9,17],[6,7],[3,6,8,9],[3,6,8,9,27],[6,7],[6,7]],[]⟩) zh25 fM Tryz.func120 (c:=(fb Tryz.f120)) (by kernel_rfl) (Lc:=0) trivial _ _ 5 _ _ _ _ _ _ [] (by rintro ⟨a0,a1,a2⟩;kernel_rfl)
def zn9 (a0:Int): Tr (Int) :=
 (.guard ((5:Int)≠0)
 (.leaf (if (IntKind.i64.wrap (Int.tdiv a0 5)) > 1 then (IntKind.i64.wrap (Int.tdiv a0 5)) else 1)))
def zmq (a0:Int):=(zn9 a0).run
def zwb:SpecT:=zm 0 (Par.q intP) 1 [] zn9 default (Par.q intP) 1 []
theorem z5j:ze Tryz.prog 141 (zwb).spec :=
 sK (A:=⟨[],[],[],[[0],[2]],[]⟩) zhN fM Tryz.func141 (c:=(fb Tryz.f141)) (by kernel_rfl) (Lc:=0) trivial _ _ 2 _ _ _ _ _ _ [] (by rintro a0;kernel_rfl)
noncomputable def zy27:EnvT:=⟨Tryz.prog,zw [(141,zwb)]⟩
theorem zh27:(zy27).Ok:=zd ⟨z5j,trivial⟩
def z3m (a0 a1:Int): Tr (Meter) :=
 (.bind (zmq a0) fun v1 =>
 (.leaf (⟨v1,IntKind.i64.wrap (a1+10)⟩:Meter)))
def zt8 (a0 a1:Int):=(z3m a0 a1).run
def z3n:SpecT:=zm 0 (LQ.v intP (Par.q intP)) 2 [] (u2 z3m) default (Par.q (Par.ofLP meterL)) 1 []
theorem z76:ze Tryz.prog 93 (z3n).spec :=
 sK (A:=⟨[],[],[],[[0,1,4],[4]],[]⟩) zh27 fM Tryz.func93 (c:=(fb Tryz.f93)) (by kernel_rfl) (Lc:=0) trivial _ _ 3 _ _ _ _ _ _ [] (by rintro ⟨a0,a1⟩;kernel_rfl)
noncomputable def zy28:EnvT:=⟨Tryz.prog,zw [(93,z3n)]⟩
theorem zh28:(zy28).Ok:=zd ⟨z76,trivial⟩
def zzu (a0:Meter) (a1 a2:Int): Tr (Meter) :=
 (.ite (decide (a2≥a0.Next))
  (.bind (zt8 a1 a2) fun v1 =>
  (.leaf v1))
  (.leaf a0))
def zrp (a0:Meter) (a1 a2:Int):=(zzu a0 a1 a2).run
def z77:SpecT:=zm 0 (LQ.v (Par.ofLP meterL) (LQ.v intP (Par.q intP))) 3 [] (u3 zzu) default (Par.q (Par.ofLP meterL)) 1 []
theorem zaga:ze Tryz.prog 121 (z77).spec :=
 sK (A:=⟨[],[],[],[[1,2,3,6],[1,2,3,6,10],[6],[6]],[]⟩) zh28 fM Tryz.func121 (c:=(fb Tryz.f121)) (by kernel_rfl) (Lc:=0) trivial _ _ 4 _ _ _ _ _ _ [] (by rintro ⟨a0,a1,a2⟩;kernel_rfl)
def zzv (a0:Meter) (a1:Int): Tr (Meter×Bool) :=
 (.ite (decide (a0.Left≤0))
  (.leaf (a0,false))
  (.leaf ((⟨IntKind.i64.wrap (a0.Left - a1),a0.Next⟩:Meter),true)))
def zjy (a0:Meter) (a1:Int):=(zzv a0 a1).run
def z78:SpecT:=zm 0 (LQ.v (Par.ofLP meterL) (Par.q intP)) 2 [] (u2 zzv) default (LQ.v (Par.ofLP meterL) (Par.q boolP)) 2 []
theorem zagb:ze Tryz.prog 162 (z78).spec :=
 sK (A:=⟨[],[],[],[[1,2,4],[1,2,4,8],[4,5],[2,4],[4,5]],[]⟩) zhN fM Tryz.func162 (c:=(fb Tryz.f162)) (by kernel_rfl) (Lc:=0) trivial _ _ 4 _ _ _ _ _ _ [] (by rintro ⟨a0,a1⟩;kernel_rfl)
def zt9 (a0:Bank): Tr ((A7 Int)) :=
 (.leaf (⟨a0.Free.x0,a0.Free.x1,a0.Free.x2,a0.Free.x3,a0.Bonded,a0.Waiting,a0.Burnt⟩:(A7 Int)))
def zrq (a0:Bank):=(zt9 a0).run
def zzw:SpecT:=zm 0 (Par.q (Par.ofLP bankL)) 1 [] zt9 default (Par.q (Par.ofLP (a7L (LP.one intP)))) 1 []
theorem z5k:ze Tryz.prog 183 (zzw).spec :=
 sK (A:=⟨[],[],[],[[1,2],[2]],[]⟩) zhN fM Tryz.func183 (c:=(fb Tryz.f183)) (by kernel_rfl) (Lc:=0) trivial _ _ 4 _ _ _ _ _ _ [] (by rintro a0;kernel_rfl)
def zua (a0:(A7 Int)): Tr (Bank) :=
 (.leaf (⟨(⟨a0.x0,a0.x1,a0.x2,a0.x3⟩:(A4 Int)),a0.x4,a0.x5,a0.x6⟩:Bank))
def zrr (a0:(A7 Int)):=(zua a0).run
def zzx:SpecT:=zm 0 (Par.q (Par.ofLP (a7L (LP.one intP)))) 1 [] zua default (Par.q (Par.ofLP bankL)) 1 []
theorem z5l:ze Tryz.prog 142 (zzx).spec :=
 sK (A:=⟨[],[],[],[[1,2],[2]],[]⟩) zhN fM Tryz.func142 (c:=(fb Tryz.f142)) (by kernel_rfl) (Lc:=0) trivial _ _ 4 _ _ _ _ _ _ [] (by rintro a0;kernel_rfl)
noncomputable def zbea:EnvT:=⟨Tryz.prog,zw [(142,zzx)]⟩
theorem zbeb:(zbea).Ok:=zd ⟨z5l,trivial⟩
def zxm  : Tr (Bank) :=
 (.bind (zrr (⟨100000,100000,100000,100000,0,0,0⟩:(A7 Int))) fun v1 =>
 (.leaf v1))
def zu1  := (zxm ).run
def z5m:SpecT:=zm 0 LQ.nil 0 [] (fun s=>zxm ) default (Par.q (Par.ofLP bankL)) 1 []
theorem zac8:ze Tryz.prog 94 (z5m).spec :=
 sK (A:=⟨[],[],[],[[0],[0]],[]⟩) zbeb fM Tryz.func94 (c:=(fb Tryz.f94)) (by kernel_rfl) (Lc:=0) trivial _ _ 3 _ _ _ _ _ _ [] (by rintro _;kernel_rfl)
noncomputable def zbec:EnvT:=⟨Tryz.prog,zw [(183,zzw)]⟩
theorem zbed:(zbec).Ok:=zd ⟨z5k,trivial⟩
def zu2 (a0:Bank): Tr (Bool) :=
 (.bind (zrq a0) fun v1 =>
 (.guard ((0:Int)≤0∧(0:Int) < 7)
 (.ite ((decide (v1.x0 < 0))||(decide (v1.x0 > 400000)))
  (.leaf false)
  (.guard ((0:Int)≤1∧(1:Int) < 7)
  (.ite ((decide (v1.x1 < 0))||(decide (v1.x1 > 400000)))
   (.leaf false)
   (.guard ((0:Int)≤2∧(2:Int) < 7)
   (.ite ((decide (v1.x2 < 0))||(decide (v1.x2 > 400000)))
    (.leaf false)
    (.guard ((0:Int)≤3∧(3:Int) < 7)
    (.ite ((decide (v1.x3 < 0))||(decide (v1.x3 > 400000)))
     (.leaf false)
     (.guard ((0:Int)≤4∧(4:Int) < 7)
     (.ite ((decide (v1.x4 < 0))||(decide (v1.x4 > 400000)))
      (.leaf false)
      (.guard ((0:Int)≤5∧(5:Int) < 7)
      (.ite ((decide (v1.x5 < 0))||(decide (v1.x5 > 400000)))
       (.leaf false)
       (.guard ((0:Int)≤6∧(6:Int) < 7)
       (.ite ((decide (v1.x6 < 0))||(decide (v1.x6 > 400000)))
        (.leaf false)
        (.leaf ((IntKind.i64.wrap ((IntKind.i64.wrap ((IntKind.i64.wrap ((IntKind.i64.wrap ((IntKind.i64.wrap ((IntKind.i64.wrap ((IntKind.i64.wrap (0+v1.x0))+v1.x1))+v1.x2))+v1.x3))+v1.x4))+v1.x5))+v1.x6))==400000)))))))))))))))))
def zmr (a0:Bank):=(zu2 a0).run
def zu3:SpecT:=zm 0 (Par.q (Par.ofLP bankL)) 1 [] zu2 default (Par.q boolP) 1 []
theorem zzy:ze Tryz.prog 143 (zu3).spec :=
 sK (A:=⟨[],[([0,1,0,1,1],8)],[[0,1,2,0,1,0,1,1],[0,1,3,0,1,0,1,1],[0,1,4,0,1,0,1,1],[0,1,5,0,1,0,1,1],[0,1,6,0,1,0,1,1],[0,1,7,0,1,0,1,1],[0,1,8,0,1,0,1,1],[0,1,9,0,1,0,1,1]],[[1],[1,3],[3,7,8],[3,7,8,9],[3,5,7,8],[3,5,7,8,16],[2],[3,7,8],[3,7,8],[2]],[]⟩) zbed fM Tryz.func143 (c:=(fb Tryz.f143)) (by kernel_rfl) (Lc:=0) trivial _ _ 3 _ _ _ _ _ _ [] (by rintro a0;kernel_rfl)
noncomputable def zbee:EnvT:=⟨Tryz.prog,zw [(143,zu3),(144,z9j),(183,zzw),(142,zzx)]⟩
theorem zbef:(zbee).Ok:=zd ⟨zzy,zaan,z5k,z5l,trivial⟩
def z64 (a0:Bank) (a1 a2 a3:Int): Tr (Bank×Int) :=
 (.bind (zmr a0) fun v1 =>
 (.guard (((!v1)=false→((zfa a3).isSome=true)∧True))
 (.ite ((!v1)||(!((zfa a3).getD default)))
  (.leaf (a0,2))
  (.bind (zrq a0) fun v2 =>
  (.guard ((0:Int)≤a1∧(a1:Int) < 7)
  (.ite (decide ((v2.get a1) < a3))
   (.leaf (a0,7))
   (.guard ((0:Int)≤a1∧(a1:Int) < 7)
   (.guard ((0:Int)≤a1∧(a1:Int) < 7)
   (.guard ((0:Int)≤a2∧(a2:Int) < 7)
   (.guard ((0:Int)≤a2∧(a2:Int) < 7)
   (.bind (zrr ((v2.set a1 (IntKind.i64.wrap ((v2.get a1) - a3))).set a2 (IntKind.i64.wrap (((v2.set a1 (IntKind.i64.wrap ((v2.get a1) - a3))).get a2)+a3)))) fun v3 =>
   (.leaf (v3,0)))))))))))))
def zlq (a0:Bank) (a1 a2 a3:Int):=(z64 a0 a1 a2 a3).run
def zwc:SpecT:=zm 0 (LQ.v (Par.ofLP bankL) (LQ.v intP (LQ.v intP (Par.q intP)))) 4 [] (u4 z64) default (LQ.v (Par.ofLP bankL) (Par.q intP)) 2 []
theorem zxn:ze Tryz.prog 145 (zwc).spec :=
 sK (A:=⟨[],[],[],[[1,2,3,4,8],[1,2,3,4,8,18],[8,9],[1,2,3,4,8,10],[1,2,3,4,8,10,26],[8,9],[2,3,8,10],[8,10],[8,9]],[]⟩) zbef fM Tryz.func145 (c:=(fb Tryz.f145)) (by kernel_rfl) (Lc:=0) trivial _ _ 5 _ _ _ _ _ _ [] (by rintro ⟨a0,a1,a2,a3⟩;kernel_rfl)
noncomputable def zbeg:EnvT:=⟨Tryz.prog,zw [(145,zwc)]⟩
theorem zbeh:(zbeg).Ok:=zd ⟨zxn,trivial⟩
def z65 (a0:Bank) (a1 a2:Int): Tr (Bank×Int) :=
 (.ite ((decide (a1 < 0))||(decide (a1 > 3)))
  (.leaf (a0,4))
  (.bind (zlq a0 a1 4 a2) fun v1 =>
  (.leaf (v1.1,v1.2))))
def zxo (a0:Bank) (a1 a2:Int):=(z65 a0 a1 a2).run
def zaea:SpecT:=zm 0 (LQ.v (Par.ofLP bankL) (LQ.v intP (Par.q intP))) 3 [] (u3 z65) default (LQ.v (Par.ofLP bankL) (Par.q intP)) 2 []
theorem zakv:ze Tryz.prog 100 (zaea).spec :=
 sK (A:=⟨[],[],[],[[1,2,3,6],[1,2,3,6,13],[6,7],[6,7]],[]⟩) zbeh fM Tryz.func100 (c:=(fb Tryz.f100)) (by kernel_rfl) (Lc:=0) trivial _ _ 4 _ _ _ _ _ _ [] (by rintro ⟨a0,a1,a2⟩;kernel_rfl)
noncomputable def zbei:EnvT:=⟨Tryz.prog,zw [(145,zwc)]⟩
theorem zbej:(zbei).Ok:=zd ⟨zxn,trivial⟩
def zzz (a0:Bank) (a1:Int): Tr (Bank×Int) :=
 (.bind (zlq a0 4 5 a1) fun v1 =>
 (.leaf (v1.1,v1.2)))
def zrs (a0:Bank) (a1:Int):=(zzz a0 a1).run
def z79:SpecT:=zm 0 (LQ.v (Par.ofLP bankL) (Par.q intP)) 2 [] (u2 zzz) default (LQ.v (Par.ofLP bankL) (Par.q intP)) 2 []
theorem zagc:ze Tryz.prog 102 (z79).spec :=
 sK (A:=⟨[],[],[],[[1,2,4],[4,5]],[]⟩) zbej fM Tryz.func102 (c:=(fb Tryz.f102)) (by kernel_rfl) (Lc:=0) trivial _ _ 4 _ _ _ _ _ _ [] (by rintro ⟨a0,a1⟩;kernel_rfl)
noncomputable def zbek:EnvT:=⟨Tryz.prog,zw [(145,zwc)]⟩
theorem zbel:(zbek).Ok:=zd ⟨zxn,trivial⟩
def zaaq (a0:Bank) (a1 a2:Int): Tr (Bank×Int) :=
 (.ite ((decide (a1 < 0))||(decide (a1 > 3)))
  (.leaf (a0,4))
  (.bind (zlq a0 5 a1 a2) fun v1 =>
  (.leaf (v1.1,v1.2))))
def z66 (a0:Bank) (a1 a2:Int):=(zaaq a0 a1 a2).run
def zaic:SpecT:=zm 0 (LQ.v (Par.ofLP bankL) (LQ.v intP (Par.q intP))) 3 [] (u3 zaaq) default (LQ.v (Par.ofLP bankL) (Par.q intP)) 2 []
theorem zaob:ze Tryz.prog 106 (zaic).spec :=
 sK (A:=⟨[],[],[],[[1,2,3,6],[1,2,3,6,13],[6,7],[6,7]],[]⟩) zbel fM Tryz.func106 (c:=(fb Tryz.f106)) (by kernel_rfl) (Lc:=0) trivial _ _ 4 _ _ _ _ _ _ [] (by rintro ⟨a0,a1,a2⟩;kernel_rfl)
noncomputable def zbem:EnvT:=⟨Tryz.prog,zw [(145,zwc)]⟩
theorem zben:(zbem).Ok:=zd ⟨zxn,trivial⟩
def z67 (a0:Bank) (a1 a2:Int): Tr (Bank×Int) :=
 (.bind (zlq a0 4 6 a1) fun v1 =>
 (.ite (v1.2 != 0)
  (.leaf (a0,v1.2))
  (.bind (zlq v1.1 5 6 a2) fun v2 =>
  (.ite (v2.2 != 0)
   (.leaf (a0,v2.2))
   (.leaf (v2.1,0))))))
def z3o (a0:Bank) (a1 a2:Int):=(z67 a0 a1 a2).run
def zaeb:SpecT:=zm 0 (LQ.v (Par.ofLP bankL) (LQ.v intP (Par.q intP))) 3 [] (u3 z67) default (LQ.v (Par.ofLP bankL) (Par.q intP)) 2 []
theorem zakw:ze Tryz.prog 104 (zaeb).spec :=
 sK (A:=⟨[],[],[],[[1,2,3,6],[2,3,6,8,9],[2,3,6,8,9,17],[6,7],[3,6,8,9],[3,6,8,9,27],[6,7],[6,7]],[]⟩) zben fM Tryz.func104 (c:=(fb Tryz.f104)) (by kernel_rfl) (Lc:=0) trivial _ _ 5 _ _ _ _ _ _ [] (by rintro ⟨a0,a1,a2⟩;kernel_rfl)
def zsg (a0:Int): Tr (Int) :=
 (.ite (decide (a0 < 5))
  (.leaf 1)
  (.guard ((5:Int)≠0)
  (.leaf (IntKind.i64.wrap (Int.tdiv a0 5)))))
def zqe (a0:Int):=(zsg a0).run
def zz0:SpecT:=zm 0 (Par.q intP) 1 [] zsg default (Par.q intP) 1 []
theorem z8s:ze Tryz.prog 95 (zz0).spec :=
 sK (A:=⟨[],[],[],[[0],[0,4],[2],[2]],[]⟩) zhN fM Tryz.func95 (c:=(fb Tryz.f95)) (by kernel_rfl) (Lc:=0) trivial _ _ 2 _ _ _ _ _ _ [] (by rintro a0;kernel_rfl)
noncomputable def zbeo:EnvT:=⟨Tryz.prog,zw [(95,zz0)]⟩
theorem zbep:(zbeo).Ok:=zd ⟨z8s,trivial⟩
def zu4 (a0 a1:Int): Tr (Meter) :=
 (.bind (zqe a0) fun v1 =>
 (.leaf (⟨v1,IntKind.i64.wrap (a1+10)⟩:Meter)))
def zms (a0 a1:Int):=(zu4 a0 a1).run
def zu5:SpecT:=zm 0 (LQ.v intP (Par.q intP)) 2 [] (u2 zu4) default (Par.q (Par.ofLP meterL)) 1 []
theorem zz1:ze Tryz.prog 50 (zu5).spec :=
 sK (A:=⟨[],[],[],[[0,1,4],[4]],[]⟩) zbep fM Tryz.func50 (c:=(fb Tryz.f50)) (by kernel_rfl) (Lc:=0) trivial _ _ 3 _ _ _ _ _ _ [] (by rintro ⟨a0,a1⟩;kernel_rfl)
noncomputable def zbeq:EnvT:=⟨Tryz.prog,zw [(50,zu5)]⟩
theorem zber:(zbeq).Ok:=zd ⟨zz1,trivial⟩
def zsh (a0:Meter) (a1 a2:Int): Tr (Meter) :=
 (.ite (decide (a0.Next > a2))
  (.leaf a0)
  (.bind (zms a1 a2) fun v1 =>
  (.leaf v1)))
def zld (a0:Meter) (a1 a2:Int):=(zsh a0 a1 a2).run
def zz2:SpecT:=zm 0 (LQ.v (Par.ofLP meterL) (LQ.v intP (Par.q intP))) 3 [] (u3 zsh) default (Par.q (Par.ofLP meterL)) 1 []
theorem z8t:ze Tryz.prog 58 (zz2).spec :=
 sK (A:=⟨[],[],[],[[1,2,3,6],[1,2,3,6,10],[6],[6]],[]⟩) zber fM Tryz.func58 (c:=(fb Tryz.f58)) (by kernel_rfl) (Lc:=0) trivial _ _ 4 _ _ _ _ _ _ [] (by rintro ⟨a0,a1,a2⟩;kernel_rfl)
def zsi (a0:Meter) (a1:Int): Tr (Meter×Bool) :=
 (.ite (decide (a0.Left < 1))
  (.leaf (a0,false))
  (.leaf ((⟨IntKind.i64.wrap (a0.Left - a1),a0.Next⟩:Meter),true)))
def zqf (a0:Meter) (a1:Int):=(zsi a0 a1).run
def zz3:SpecT:=zm 0 (LQ.v (Par.ofLP meterL) (Par.q intP)) 2 [] (u2 zsi) default (LQ.v (Par.ofLP meterL) (Par.q boolP)) 2 []
theorem z8u:ze Tryz.prog 105 (zz3).spec :=
 sK (A:=⟨[],[],[],[[1,2,4],[1,2,4,8],[4,5],[4,5]],[]⟩) zhN fM Tryz.func105 (c:=(fb Tryz.f105)) (by kernel_rfl) (Lc:=0) trivial _ _ 4 _ _ _ _ _ _ [] (by rintro ⟨a0,a1⟩;kernel_rfl)
end
