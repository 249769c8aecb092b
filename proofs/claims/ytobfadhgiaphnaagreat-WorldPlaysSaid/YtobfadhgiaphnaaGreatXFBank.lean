/-
  The functions, each by its tree.
-/
import Derived.Test.YtobfadhgiaphnaaGreatXAbC
import Derived.Test.YtobfadhgiaphnaaGreatXFRatio
import Derived.Test.YtobfadhgiaphnaaGreatXFacts
namespace Go.Proofs.YtobfadhgiaphnaaGreat.Ab
open Go Go.RowKit
open Go.IntKind (i64 u64)
set_option maxRecDepth 100000
set_option linter.unusedVariables false
set_option linter.unusedSimpArgs false
noncomputable section
def zv7:List (List Nat):=[[0],[0,1],[0,1,3],[0,1,3,4],[0,1,2,3],[0,1,3],[0,1,3],[0]]
def zht (x0:Int) (x1 x2:Bank): Tr ((Int×Bank×Bank)⊕(Bank×Bank)) :=
 (.ite (decide (x0 < 4))
  (.guard ((0:Int)≤x0∧(x0:Int) < 4)
  (.leaf (.inl (i64.wrap (x0+1),x1,{ x2 with Free:=(x2.Free.set x0 100000) }))))
  (.leaf (.inr (x1,x2))))
def zwn (x0:Int) (x1 x2:Bank):=zbl (fun s:Int×Bank×Bank=>(zht s.1 s.2.1 s.2.2).run) (x0,x1,x2)
def za7a:Ann:=⟨[],[],[],zv7,[]⟩
def zq7a:=EndD.mk (LQ.kp 0 0 (LQ.kp 1 0 (LQ.v intP (LQ.seq (LP.q bankL) (LP.q bankL))))) ⟨[0,1,3],[]⟩ [.cells 40 7,.cells 40 7]
def za9h:=EndD.mk (LQ.kp 0 0 (LQ.kp 1 0 (LQ.seq (LP.q bankL) (LP.q bankL)))) ⟨[0,1],[]⟩ [.cells 40 7,.cells 40 7]
def zl7a:St→Option LR:=L1 11 4 0 zq7a (.exit 0) za9h (u3 zht)
def zs7a:=sub (fb Tryz.f140) [0,1,0,1,1]
theorem zk7a:zk (zyN).env 0 zs7a zl7a :=
 zb5 (A:=za7a) zhN fM trivial (k:=z8 zs7a) (by kernel_rfl) rfl (by rintro ⟨x0,x1,x2⟩;kernel_rfl)
def z85  : Tr (Bank) :=
 (.bind (zwn 0 (⟨(⟨0,0,0,0⟩:(A4 Int)),0,0,0⟩:Bank) (⟨(⟨0,0,0,0⟩:(A4 Int)),0,0,0⟩:Bank)) fun v1 =>
 (.leaf v1.2))
def z5i  := (z85 ).run
def zagg:SpecT:=zn 0 LQ.nil 0 [] (fun s=>z85 ) default (Par.q (Par.ofLP bankL)) 1 []
theorem zam1:ze Tryz.prog 140 (zagg).spec :=
 sK (A:=⟨[([0,1,0,1,1],zl7a)],[],[],zv7,[]⟩) zhN fM Tryz.func140 (c:=(fb Tryz.f140)) (by kernel_rfl) (Lc:=0) ⟨zk7a,trivial⟩ _ _ 4 _ _ _ _ _ _ [] (by rintro _;kernel_rfl)
def zv8:List (List Nat):=[[1],[1,3],[3,15,16],[3,15,16,17],[3,5,15,16],[3,15,16],[3,15,16],[2]]
def zhu (x0:Int) (x1:(A4 Int)) (x2:Int): Tr ((Int×(A4 Int)×Int)⊕(Int)) :=
 (.ite (decide (x2 < 4))
  (.guard ((0:Int)≤x2∧(x2:Int) < 4)
  (.leaf (.inl (i64.wrap (x0+(x1.get x2)),x1,i64.wrap (x2+1)))))
  (.leaf (.inr x0)))
def zwo (x0:Int) (x1:(A4 Int)) (x2:Int):=zbl (fun s:Int×(A4 Int)×Int=>(zhu s.1 s.2.1 s.2.2).run) (x0,x1,x2)
def za8a:Ann:=⟨[],[],[],zv8,[]⟩
def zq8a:=EndD.mk (LQ.v intP (LQ.seq (Par.q (Par.ofLP (a4L (LP.one intP)))) (Par.q intP))) ⟨[3,15,16],[]⟩ []
def za9i:=EndD.mk (Par.q intP) ⟨[3],[]⟩ []
def zl8a:St→Option LR:=L1 24 3 0 zq8a (.exit 0) za9i (u3 zhu)
def zs8a:=sub (fb Tryz.f184) [0,1,0,1,1]
theorem zk8a:zk (zyN).env 0 zs8a zl8a :=
 zb5 (A:=za8a) zhN fM trivial (k:=z8 zs8a) (by kernel_rfl) rfl (by rintro ⟨x0,x1,x2⟩;kernel_rfl)
def z86 (a0:Bank): Tr (Int) :=
 (.bind (zwo (i64.wrap ((i64.wrap (a0.Bonded+a0.Waiting))+a0.Burnt)) a0.Free 0) fun v1 =>
 (.leaf v1))
def z5j (a0:Bank):=(z86 a0).run
def zagh:SpecT:=zn 0 (Par.q (Par.ofLP bankL)) 1 [] z86 default (Par.q intP) 1 []
theorem zam2:ze Tryz.prog 184 (zagh).spec :=
 sK (A:=⟨[([0,1,0,1,1],zl8a)],[],[],zv8,[]⟩) zhN fM Tryz.func184 (c:=(fb Tryz.f184)) (by kernel_rfl) (Lc:=0) ⟨zk8a,trivial⟩ _ _ 3 _ _ _ _ _ _ [] (by rintro a0;kernel_rfl)
def zv9:List (List Nat):=[[1],[1,14,15,16],[1,14,15,16,17],[1,4,14,15,16],[1,14,15,16,25],[2],[1,14,15,16],[2]]
noncomputable def zy9:EnvT:=⟨Tryz.prog,zw [(184,zagh)]⟩
theorem zh9:(zy9).Ok:=zd ⟨zam2,trivial⟩
def zlw (x0 x1:Int) (x2:Bank) (x3:(List Int)): Tr ((Int×Int×Bank×(List Int))⊕((Bool)⊕(Bank))) :=
 (.ite (decide (x1 < x0))
  (.guard ((0:Int)≤x1∧x1 < ((Sl.len (.ints x3):Nat):Int))
  (.ite ((decide ((x3.getD x1.toNat 0) < 0))||(decide ((x3.getD x1.toNat 0) > 400000)))
   (.leaf (.inr (.inl false)))
   (.leaf (.inl (x0,i64.wrap (x1+1),x2,x3)))))
  (.leaf (.inr (.inr x2))))
def z1m (x0 x1:Int) (x2:Bank) (x3:(List Int)):=zbl (fun s:Int×Int×Bank×(List Int)=>(zlw s.1 s.2.1 s.2.2.1 s.2.2.2).run) (x0,x1,x2,x3)
def za9a:Ann:=⟨[],[],[],zv9,[]⟩
def zq9a:=EndD.mk (LQ.kp 0 0 (LQ.k (LQ.c (.own 1)) (LQ.v intP (LQ.v intP (LQ.seq (LP.q bankL) (Par.q za7)))))) ⟨[1,14,15,16],[.nilown 14 3 (.ints [])]⟩ [.cells 40 7,.rows 3]
def za9j:=EndD.mk (Par.q boolP) ⟨[2],[]⟩ []
def za9k:=EndD.mk (LQ.kp 0 0 (LP.q bankL)) ⟨[1],[]⟩ [.cells 40 7]
def zl9a:St→Option LR:=L2 30 5 0 zq9a .ret za9j (.exit 0) za9k (u4 zlw)
def zs9a:=sub (fb Tryz.f147) [0,1,0,1]
theorem zk9a:zk (zy9).env 0 zs9a zl9a :=
 zgs (A:=za9a) zh9 fM trivial (k:=z8 zs9a) (by kernel_rfl) rfl rfl (by rintro ⟨x0,x1,x2,x3⟩;kernel_rfl)
def z5k (a0:Bank): Tr (Bool) :=
 (.guard ((Sl.len (.ints [a0.Free.x0,a0.Free.x1,a0.Free.x2,a0.Free.x3])+Sl.len (.ints [a0.Bonded,a0.Waiting,a0.Burnt]))*8≤140737488355328)
 (.guard (0 < Sl.len (.ints [a0.Bonded,a0.Waiting,a0.Burnt]))
 (.two (z1m ((([a0.Free.x0,a0.Free.x1,a0.Free.x2,a0.Free.x3]++[a0.Bonded,a0.Waiting,a0.Burnt]).length:Nat):Int) 0 a0 ([a0.Free.x0,a0.Free.x1,a0.Free.x2,a0.Free.x3]++[a0.Bonded,a0.Waiting,a0.Burnt])) (fun v1 =>
  (.leaf v1)) (fun v2 =>
  (.bind (z5j v2) fun v3 =>
  (.leaf (v3==400000)))))))
def zhn (a0:Bank):=(z5k a0).run
def zms:SpecT:=zn 0 (Par.q (Par.ofLP bankL)) 1 [] z5k default (Par.q boolP) 1 []
theorem znf:ze Tryz.prog 147 (zms).spec :=
 sK (A:=⟨[([0,1,0,1],zl9a)],[],[],zv9,[]⟩) zh9 fM Tryz.func147 (c:=(fb Tryz.f147)) (by kernel_rfl) (Lc:=0) ⟨zk9a,trivial⟩ _ _ 5 _ _ _ _ _ _ [] (by rintro a0;kernel_rfl)
def zmf (a0:Int): Tr (Bool) :=
 (.leaf ((decide (a0≥0))&&(decide (a0 < 4))))
def zkw (a0:Int):=(zmf a0).run
def zro:SpecT:=zn 0 (Par.q intP) 1 [] zmf default (Par.q boolP) 1 []
theorem zx3:ze Tryz.prog 155 (zro).spec :=
 sK (A:=⟨[],[],[],[[0],[2]],[]⟩) zhN fM Tryz.func155 (c:=(fb Tryz.f155)) (by kernel_rfl) (Lc:=0) trivial _ _ 2 _ _ _ _ _ _ [] (by rintro a0;kernel_rfl)
def zzb (a0:Bank) (a1:Int): Tr (Int×Bank×Int) :=
 (.guard ((0:Int)≤a1∧(a1:Int) < 4)
 (.leaf (a1,a0,a1)))
def zlx (a0:Bank) (a1:Int):=(zzb a0 a1).run
def zzc:SpecT:=zn 2 (LQ.kp 0 0 (LQ.kp 1 0 (LQ.seq (LP.q bankL) (Par.q intP)))) 2 [.cells 40 7,.cells 3 1] (u2 zzb) default (LQ.seq (LQ.pix1 0 0 4 1 0) (LQ.seq (LP.q bankL) (Par.q intP))) 1 [.cells 40 7,.cells 3 1]
theorem z4d:ze Tryz.prog 187 (zzc).spec :=
 sK (A:=⟨[],[],[],[[0,1],[3]],[]⟩) zhN fM Tryz.func187 (c:=(fb Tryz.f187)) (by kernel_rfl) (Lc:=2) trivial _ _ 4 _ _ _ _ _ _ [] (by rintro ⟨a0,a1⟩;kernel_rfl)
def zzd (a0:Int): Tr (Int) :=
 (.leaf a0)
def zdi (a0:Int):=(zzd a0).run
def z5l:SpecT:=zn 0 (Par.q intP) 1 [] zzd default (LQ.k (LQ.c (.fn 187 [.ptr 0 0])) (Par.q intP)) 1 [.cells 3 1]
theorem zaab:ze Tryz.prog 157 (z5l).spec :=
 sK (A:=⟨[],[],[],[[1],[2]],[]⟩) zhN fM Tryz.func157 (c:=(fb Tryz.f157)) (by kernel_rfl) (Lc:=0) trivial _ _ 3 _ _ _ _ _ _ [] (by rintro a0;kernel_rfl)
def zze (a0:Bank): Tr (Bank) :=
 (.leaf a0)
def zgi (a0:Bank):=(zze a0).run
def zs5:SpecT:=zn 1 (LQ.kp 0 0 (LP.q bankL)) 1 [.cells 40 7] zze default (LQ.kp 0 4 (LP.q bankL)) 1 [.cells 40 7]
theorem zwp:ze Tryz.prog 158 (zs5).spec :=
 sK (A:=⟨[],[],[],[[0],[2]],[]⟩) zhN fM Tryz.func158 (c:=(fb Tryz.f158)) (by kernel_rfl) (Lc:=1) trivial _ _ 3 _ _ _ _ _ _ [] (by rintro a0;kernel_rfl)
def zwq (a0:Bank): Tr (Bank) :=
 (.leaf a0)
def zfh (a0:Bank):=(zwq a0).run
def zqj:SpecT:=zn 1 (LQ.kp 0 0 (LP.q bankL)) 1 [.cells 40 7] zwq default (LQ.kp 0 5 (LP.q bankL)) 1 [.cells 40 7]
theorem ztw:ze Tryz.prog 159 (zqj).spec :=
 sK (A:=⟨[],[],[],[[0],[2]],[]⟩) zhN fM Tryz.func159 (c:=(fb Tryz.f159)) (by kernel_rfl) (Lc:=1) trivial _ _ 3 _ _ _ _ _ _ [] (by rintro a0;kernel_rfl)
def z1n (a0:Bank): Tr (Bank) :=
 (.leaf a0)
def zs6 (a0:Bank):=(z1n a0).run
def z1o:SpecT:=zn 1 (LQ.kp 0 0 (LP.q bankL)) 1 [.cells 40 7] z1n default (LQ.kp 0 6 (LP.q bankL)) 1 [.cells 40 7]
theorem z7g:ze Tryz.prog 160 (z1o).spec :=
 sK (A:=⟨[],[],[],[[0],[2]],[]⟩) zhN fM Tryz.func160 (c:=(fb Tryz.f160)) (by kernel_rfl) (Lc:=1) trivial _ _ 3 _ _ _ _ _ _ [] (by rintro a0;kernel_rfl)
noncomputable def zy16:EnvT:=⟨Tryz.prog,zw [(147,zms),(148,zne),(187,zzc),(158,zs5)]⟩
theorem zh16:(zy16).Ok:=zd ⟨znf,zmr,z4d,zwp,trivial⟩
def zzf (a0:Bank) (a1 a2:Int): Tr (Bank×Int×Int) :=
 (.bind (zhn a0) fun v1 =>
 (.guard (((!v1)=false→((zao a1).isSome=true)∧True))
 (.ite ((!v1)||(!((zao a1).getD default)))
  (.leaf (a0,2,a2))
  (.bind (zlx a0 a2) fun v2 =>
  (.ite (decide ((v2.2.1.Free.get v2.1) < a1))
   (.leaf (v2.2.1,7,v2.2.2))
   (.bind (zlx v2.2.1 v2.2.2) fun v3 =>
   (.bind (zgi ({ v3.2.1 with Free:=(v3.2.1.Free.set v3.1 (i64.wrap ((v3.2.1.Free.get v3.1) - a1))) })) fun v4 =>
   (.leaf ({ v4 with Bonded:=i64.wrap (v4.Bonded+a1) },0,v3.2.2)))))))))
def zly (a0:Bank) (a1 a2:Int):=(zzf a0 a1 a2).run
def z7h:SpecT:=zn 1 (LQ.v (Par.ofLP bankL) (LQ.k (LQ.c (.fn 187 [.ptr 0 0])) (LQ.k (LQ.c (.fn 158 [])) (LQ.v intP (Par.q intP))))) 4 [.cells 3 1] (u3 zzf) default (LQ.v (Par.ofLP bankL) (LQ.v intP (Par.q intP))) 2 [.cells 3 1]
theorem zafa:ze Tryz.prog 156 (z7h).spec :=
 sK (A:=⟨[],[],[],[[1,2,3,4,8],[1,2,3,4,8,10],[8,9],[1,2,3,4,8,20],[8,9],[2,3,4,8],[4,8],[8,9]],[]⟩) zh16 fM Tryz.func156 (c:=(fb Tryz.f156)) (by kernel_rfl) (Lc:=1) trivial _ _ 5 _ _ _ _ _ _ [] (by rintro ⟨a0,a1,a2⟩;kernel_rfl)
noncomputable def zy17:EnvT:=⟨Tryz.prog,zw [(147,zms),(148,zne),(158,zs5),(159,zqj)]⟩
theorem zh17:(zy17).Ok:=zd ⟨znf,zmr,zwp,ztw,trivial⟩
def zzg (a0:Bank) (a1:Int): Tr (Bank×Int) :=
 (.bind (zhn a0) fun v1 =>
 (.guard (((!v1)=false→((zao a1).isSome=true)∧True))
 (.ite ((!v1)||(!((zao a1).getD default)))
  (.leaf (a0,2))
  (.bind (zgi a0) fun v2 =>
  (.ite (decide (v2.Bonded < a1))
   (.leaf (v2,7))
   (.bind (zgi v2) fun v3 =>
   (.bind (zfh ({ v3 with Bonded:=i64.wrap (v3.Bonded - a1) })) fun v4 =>
   (.leaf ({ v4 with Waiting:=i64.wrap (v4.Waiting+a1) },0)))))))))
def zwr (a0:Bank) (a1:Int):=(zzg a0 a1).run
def z7i:SpecT:=zn 0 (LQ.v (Par.ofLP bankL) (LQ.k (LQ.c (.fn 158 [])) (LQ.k (LQ.c (.fn 159 [])) (Par.q intP)))) 4 [] (u2 zzg) default (LQ.v (Par.ofLP bankL) (Par.q intP)) 2 []
theorem zafb:ze Tryz.prog 156 (z7i).spec :=
 sK (A:=⟨[],[],[],[[1,2,3,4,8],[1,2,3,4,8,10],[8,9],[1,2,3,4,8,20],[8,9],[2,3,4,8],[4,8],[8,9]],[]⟩) zh17 fM Tryz.func156 (c:=(fb Tryz.f156)) (by kernel_rfl) (Lc:=0) trivial _ _ 4 _ _ _ _ _ _ [] (by rintro ⟨a0,a1⟩;kernel_rfl)
noncomputable def zy18:EnvT:=⟨Tryz.prog,zw [(147,zms),(148,zne),(159,zqj),(187,zzc)]⟩
theorem zh18:(zy18).Ok:=zd ⟨znf,zmr,ztw,z4d,trivial⟩
def zzh (a0:Bank) (a1 a2:Int): Tr (Bank×Int×Int) :=
 (.bind (zhn a0) fun v1 =>
 (.guard (((!v1)=false→((zao a1).isSome=true)∧True))
 (.ite ((!v1)||(!((zao a1).getD default)))
  (.leaf (a0,2,a2))
  (.bind (zfh a0) fun v2 =>
  (.ite (decide (v2.Waiting < a1))
   (.leaf (v2,7,a2))
   (.bind (zfh v2) fun v3 =>
   (.bind (zlx ({ v3 with Waiting:=i64.wrap (v3.Waiting - a1) }) a2) fun v4 =>
   (.leaf ({ v4.2.1 with Free:=(v4.2.1.Free.set v4.1 (i64.wrap ((v4.2.1.Free.get v4.1)+a1))) },0,v4.2.2)))))))))
def zlz (a0:Bank) (a1 a2:Int):=(zzh a0 a1 a2).run
def z7j:SpecT:=zn 1 (LQ.v (Par.ofLP bankL) (LQ.k (LQ.c (.fn 159 [])) (LQ.k (LQ.c (.fn 187 [.ptr 0 0])) (LQ.v intP (Par.q intP))))) 4 [.cells 3 1] (u3 zzh) default (LQ.v (Par.ofLP bankL) (LQ.v intP (Par.q intP))) 2 [.cells 3 1]
theorem zafc:ze Tryz.prog 156 (z7j).spec :=
 sK (A:=⟨[],[],[],[[1,2,3,4,8],[1,2,3,4,8,10],[8,9],[1,2,3,4,8,20],[8,9],[2,3,4,8],[4,8],[8,9]],[]⟩) zh18 fM Tryz.func156 (c:=(fb Tryz.f156)) (by kernel_rfl) (Lc:=1) trivial _ _ 5 _ _ _ _ _ _ [] (by rintro ⟨a0,a1,a2⟩;kernel_rfl)
noncomputable def zy19:EnvT:=⟨Tryz.prog,zw [(147,zms),(148,zne),(158,zs5),(160,z1o)]⟩
theorem zh19:(zy19).Ok:=zd ⟨znf,zmr,zwp,z7g,trivial⟩
def zzi (a0:Bank) (a1:Int): Tr (Bank×Int) :=
 (.bind (zhn a0) fun v1 =>
 (.guard (((!v1)=false→((zao a1).isSome=true)∧True))
 (.ite ((!v1)||(!((zao a1).getD default)))
  (.leaf (a0,2))
  (.bind (zgi a0) fun v2 =>
  (.ite (decide (v2.Bonded < a1))
   (.leaf (v2,7))
   (.bind (zgi v2) fun v3 =>
   (.bind (zs6 ({ v3 with Bonded:=i64.wrap (v3.Bonded - a1) })) fun v4 =>
   (.leaf ({ v4 with Burnt:=i64.wrap (v4.Burnt+a1) },0)))))))))
def zws (a0:Bank) (a1:Int):=(zzi a0 a1).run
def z7k:SpecT:=zn 0 (LQ.v (Par.ofLP bankL) (LQ.k (LQ.c (.fn 158 [])) (LQ.k (LQ.c (.fn 160 [])) (Par.q intP)))) 4 [] (u2 zzi) default (LQ.v (Par.ofLP bankL) (Par.q intP)) 2 []
theorem zafd:ze Tryz.prog 156 (z7k).spec :=
 sK (A:=⟨[],[],[],[[1,2,3,4,8],[1,2,3,4,8,10],[8,9],[1,2,3,4,8,20],[8,9],[2,3,4,8],[4,8],[8,9]],[]⟩) zh19 fM Tryz.func156 (c:=(fb Tryz.f156)) (by kernel_rfl) (Lc:=0) trivial _ _ 4 _ _ _ _ _ _ [] (by rintro ⟨a0,a1⟩;kernel_rfl)
noncomputable def zy20:EnvT:=⟨Tryz.prog,zw [(147,zms),(148,zne),(159,zqj),(160,z1o)]⟩
theorem zh20:(zy20).Ok:=zd ⟨znf,zmr,ztw,z7g,trivial⟩
def zzj (a0:Bank) (a1:Int): Tr (Bank×Int) :=
 (.bind (zhn a0) fun v1 =>
 (.guard (((!v1)=false→((zao a1).isSome=true)∧True))
 (.ite ((!v1)||(!((zao a1).getD default)))
  (.leaf (a0,2))
  (.bind (zfh a0) fun v2 =>
  (.ite (decide (v2.Waiting < a1))
   (.leaf (v2,7))
   (.bind (zfh v2) fun v3 =>
   (.bind (zs6 ({ v3 with Waiting:=i64.wrap (v3.Waiting - a1) })) fun v4 =>
   (.leaf ({ v4 with Burnt:=i64.wrap (v4.Burnt+a1) },0)))))))))
def zwt (a0:Bank) (a1:Int):=(zzj a0 a1).run
def z7l:SpecT:=zn 0 (LQ.v (Par.ofLP bankL) (LQ.k (LQ.c (.fn 159 [])) (LQ.k (LQ.c (.fn 160 [])) (Par.q intP)))) 4 [] (u2 zzj) default (LQ.v (Par.ofLP bankL) (Par.q intP)) 2 []
theorem zafe:ze Tryz.prog 156 (z7l).spec :=
 sK (A:=⟨[],[],[],[[1,2,3,4,8],[1,2,3,4,8,10],[8,9],[1,2,3,4,8,20],[8,9],[2,3,4,8],[4,8],[8,9]],[]⟩) zh20 fM Tryz.func156 (c:=(fb Tryz.f156)) (by kernel_rfl) (Lc:=0) trivial _ _ 4 _ _ _ _ _ _ [] (by rintro ⟨a0,a1⟩;kernel_rfl)
def ztx:SpecT:=altT z7h (altT z7i (altT z7j (altT z7k (z7l))))
theorem zvr:ze Tryz.prog 156 (ztx).spec:=zahn zafa (zahn zafb (zahn zafc (zahn zafd (zafe))))
noncomputable def zy22:EnvT:=⟨Tryz.prog,zw [(155,zro),(157,z5l),(156,ztx)]⟩
theorem zh22:(zy22).Ok:=zd ⟨zx3,zaab,zvr,trivial⟩
def z5m (a0:Bank) (a1 a2:Int): Tr (Bank×Int) :=
 (.bind (zkw a1) fun v1 =>
 (.ite (!v1)
  (.leaf (a0,4))
  (.guard ((zdi a1).isSome=true)
  (.guard ((zly a0 a2 ((zdi a1).getD default)).isSome=true)
  (.leaf ((((zly a0 a2 ((zdi a1).getD default)).getD default).1),((zly a0 a2 ((zdi a1).getD default)).getD default).2.1))))))
def zvs (a0:Bank) (a1 a2:Int):=(z5m a0 a1 a2).run
def zacw:SpecT:=zn 0 (LQ.v (Par.ofLP bankL) (LQ.v intP (Par.q intP))) 3 [] (u3 z5m) default (LQ.v (Par.ofLP bankL) (Par.q intP)) 2 []
theorem zakk:ze Tryz.prog 116 (zacw).spec :=
 sK (A:=⟨[],[],[],[[1,2,3,6],[1,2,3,6,10],[6,7],[6,7]],[]⟩) zh22 fM Tryz.func116 (c:=(fb Tryz.f116)) (by kernel_rfl) (Lc:=0) trivial _ _ 5 _ _ _ _ _ _ [] (by rintro ⟨a0,a1,a2⟩;kernel_rfl)
noncomputable def zy23:EnvT:=⟨Tryz.prog,zw [(156,ztx)]⟩
theorem zh23:(zy23).Ok:=zd ⟨zvr,trivial⟩
def zzk (a0:Bank) (a1:Int): Tr (Bank×Int) :=
 (.bind (zwr a0 a1) fun v2 =>
 (.leaf (v2.1,v2.2)))
def zl0 (a0:Bank) (a1:Int):=(zzk a0 a1).run
def z7m:SpecT:=zn 0 (LQ.v (Par.ofLP bankL) (Par.q intP)) 2 [] (u2 zzk) default (LQ.v (Par.ofLP bankL) (Par.q intP)) 2 []
theorem zaff:ze Tryz.prog 117 (z7m).spec :=
 sK (A:=⟨[],[],[],[[1,2,4],[4,5]],[]⟩) zh23 fM Tryz.func117 (c:=(fb Tryz.f117)) (by kernel_rfl) (Lc:=0) trivial _ _ 4 _ _ _ _ _ _ [] (by rintro ⟨a0,a1⟩;kernel_rfl)
noncomputable def zy24:EnvT:=⟨Tryz.prog,zw [(155,zro),(157,z5l),(156,ztx)]⟩
theorem zh24:(zy24).Ok:=zd ⟨zx3,zaab,zvr,trivial⟩
def z87 (a0:Bank) (a1 a2:Int): Tr (Bank×Int) :=
 (.bind (zkw a1) fun v1 =>
 (.ite (!v1)
  (.leaf (a0,4))
  (.guard ((zdi a1).isSome=true)
  (.guard ((zlz a0 a2 ((zdi a1).getD default)).isSome=true)
  (.leaf ((((zlz a0 a2 ((zdi a1).getD default)).getD default).1),((zlz a0 a2 ((zdi a1).getD default)).getD default).2.1))))))
def z5n (a0:Bank) (a1 a2:Int):=(z87 a0 a1 a2).run
def zagi:SpecT:=zn 0 (LQ.v (Par.ofLP bankL) (LQ.v intP (Par.q intP))) 3 [] (u3 z87) default (LQ.v (Par.ofLP bankL) (Par.q intP)) 2 []
theorem zam3:ze Tryz.prog 167 (zagi).spec :=
 sK (A:=⟨[],[],[],[[1,2,3,6],[1,2,3,6,10],[6,7],[6,7]],[]⟩) zh24 fM Tryz.func167 (c:=(fb Tryz.f167)) (by kernel_rfl) (Lc:=0) trivial _ _ 5 _ _ _ _ _ _ [] (by rintro ⟨a0,a1,a2⟩;kernel_rfl)
noncomputable def zy25:EnvT:=⟨Tryz.prog,zw [(156,ztx)]⟩
theorem zh25:(zy25).Ok:=zd ⟨zvr,trivial⟩
def z5o (a0:Bank) (a1 a2:Int): Tr (Bank×Int) :=
 (.bind (zws a0 a1) fun v4 =>
 (.ite (v4.2 != 0)
  (.leaf (a0,v4.2))
  (.bind (zwt v4.1 a2) fun v9 =>
  (.ite (v9.2 != 0)
   (.leaf (a0,v9.2))
   (.leaf (v9.1,0))))))
def z1p (a0:Bank) (a1 a2:Int):=(z5o a0 a1 a2).run
def zacx:SpecT:=zn 0 (LQ.v (Par.ofLP bankL) (LQ.v intP (Par.q intP))) 3 [] (u3 z5o) default (LQ.v (Par.ofLP bankL) (Par.q intP)) 2 []
theorem zakl:ze Tryz.prog 120 (zacx).spec :=
 sK (A:=⟨[],[],[],[[1,2,3,6],[2,3,6,8,9],[2,3,6,8,9,17],[6,7],[3,6,8,9],[3,6,8,9,27],[6,7],[6,7]],[]⟩) zh25 fM Tryz.func120 (c:=(fb Tryz.f120)) (by kernel_rfl) (Lc:=0) trivial _ _ 5 _ _ _ _ _ _ [] (by rintro ⟨a0,a1,a2⟩;kernel_rfl)
def zph (a0:Int): Tr (Int) :=
 (.guard ((5:Int)≠0)
 (.leaf (if (i64.wrap (Int.tdiv a0 5)) > 1 then (i64.wrap (Int.tdiv a0 5)) else 1)))
def znt (a0:Int):=(zph a0).run
def zx4:SpecT:=zn 0 (Par.q intP) 1 [] zph default (Par.q intP) 1 []
theorem z7n:ze Tryz.prog 141 (zx4).spec :=
 sK (A:=⟨[],[],[],[[0],[2]],[]⟩) zhN fM Tryz.func141 (c:=(fb Tryz.f141)) (by kernel_rfl) (Lc:=0) trivial _ _ 2 _ _ _ _ _ _ [] (by rintro a0;kernel_rfl)
noncomputable def zy27:EnvT:=⟨Tryz.prog,zw [(141,zx4)]⟩
theorem zh27:(zy27).Ok:=zd ⟨z7n,trivial⟩
def z5p (a0 a1:Int): Tr (Meter) :=
 (.bind (znt a0) fun v1 =>
 (.leaf (⟨v1,i64.wrap (a1+10)⟩:Meter)))
def zvt (a0 a1:Int):=(z5p a0 a1).run
def z5q:SpecT:=zn 0 (LQ.v intP (Par.q intP)) 2 [] (u2 z5p) default (Par.q (Par.ofLP meterL)) 1 []
theorem zaac:ze Tryz.prog 93 (z5q).spec :=
 sK (A:=⟨[],[],[],[[0,1,4],[4]],[]⟩) zh27 fM Tryz.func93 (c:=(fb Tryz.f93)) (by kernel_rfl) (Lc:=0) trivial _ _ 3 _ _ _ _ _ _ [] (by rintro ⟨a0,a1⟩;kernel_rfl)
noncomputable def zy28:EnvT:=⟨Tryz.prog,zw [(93,z5q)]⟩
theorem zh28:(zy28).Ok:=zd ⟨zaac,trivial⟩
def z1q (a0:Meter) (a1 a2:Int): Tr (Meter) :=
 (.ite (decide (a2≥a0.Next))
  (.bind (zvt a1 a2) fun v1 =>
  (.leaf v1))
  (.leaf a0))
def zs7 (a0:Meter) (a1 a2:Int):=(z1q a0 a1 a2).run
def zaad:SpecT:=zn 0 (LQ.v (Par.ofLP meterL) (LQ.v intP (Par.q intP))) 3 [] (u3 z1q) default (Par.q (Par.ofLP meterL)) 1 []
theorem zaik:ze Tryz.prog 121 (zaad).spec :=
 sK (A:=⟨[],[],[],[[1,2,3,6],[1,2,3,6,10],[6],[6]],[]⟩) zh28 fM Tryz.func121 (c:=(fb Tryz.f121)) (by kernel_rfl) (Lc:=0) trivial _ _ 4 _ _ _ _ _ _ [] (by rintro ⟨a0,a1,a2⟩;kernel_rfl)
def z1r (a0:Meter) (a1:Int): Tr (Meter×Bool) :=
 (.ite (decide (a0.Left≤0))
  (.leaf (a0,false))
  (.leaf ((⟨i64.wrap (a0.Left - a1),a0.Next⟩:Meter),true)))
def zkx (a0:Meter) (a1:Int):=(z1r a0 a1).run
def zaae:SpecT:=zn 0 (LQ.v (Par.ofLP meterL) (Par.q intP)) 2 [] (u2 z1r) default (LQ.v (Par.ofLP meterL) (Par.q boolP)) 2 []
theorem zail:ze Tryz.prog 162 (zaae).spec :=
 sK (A:=⟨[],[],[],[[1,2,4],[1,2,4,8],[4,5],[2,4],[4,5]],[]⟩) zhN fM Tryz.func162 (c:=(fb Tryz.f162)) (by kernel_rfl) (Lc:=0) trivial _ _ 4 _ _ _ _ _ _ [] (by rintro ⟨a0,a1⟩;kernel_rfl)
def zvu (a0:Bank): Tr ((A7 Int)) :=
 (.leaf (⟨a0.Free.x0,a0.Free.x1,a0.Free.x2,a0.Free.x3,a0.Bonded,a0.Waiting,a0.Burnt⟩:(A7 Int)))
def zs8 (a0:Bank):=(zvu a0).run
def z1s:SpecT:=zn 0 (Par.q (Par.ofLP bankL)) 1 [] zvu default (Par.q (Par.ofLP (a7L (LP.one intP)))) 1 []
theorem z7o:ze Tryz.prog 183 (z1s).spec :=
 sK (A:=⟨[],[],[],[[1,2],[2]],[]⟩) zhN fM Tryz.func183 (c:=(fb Tryz.f183)) (by kernel_rfl) (Lc:=0) trivial _ _ 4 _ _ _ _ _ _ [] (by rintro a0;kernel_rfl)
def zvv (a0:(A7 Int)): Tr (Bank) :=
 (.leaf (⟨(⟨a0.x0,a0.x1,a0.x2,a0.x3⟩:(A4 Int)),a0.x4,a0.x5,a0.x6⟩:Bank))
def zs9 (a0:(A7 Int)):=(zvv a0).run
def z1t:SpecT:=zn 0 (Par.q (Par.ofLP (a7L (LP.one intP)))) 1 [] zvv default (Par.q (Par.ofLP bankL)) 1 []
theorem z7p:ze Tryz.prog 142 (z1t).spec :=
 sK (A:=⟨[],[],[],[[1,2],[2]],[]⟩) zhN fM Tryz.func142 (c:=(fb Tryz.f142)) (by kernel_rfl) (Lc:=0) trivial _ _ 4 _ _ _ _ _ _ [] (by rintro a0;kernel_rfl)
noncomputable def zbi5:EnvT:=⟨Tryz.prog,zw [(142,z1t)]⟩
theorem zbi6:(zbi5).Ok:=zd ⟨z7p,trivial⟩
def zzl  : Tr (Bank) :=
 (.bind (zs9 (⟨100000,100000,100000,100000,0,0,0⟩:(A7 Int))) fun v1 =>
 (.leaf v1))
def zwu  := (zzl ).run
def z7q:SpecT:=zn 0 LQ.nil 0 [] (fun s=>zzl ) default (Par.q (Par.ofLP bankL)) 1 []
theorem zafg:ze Tryz.prog 94 (z7q).spec :=
 sK (A:=⟨[],[],[],[[0],[0]],[]⟩) zbi6 fM Tryz.func94 (c:=(fb Tryz.f94)) (by kernel_rfl) (Lc:=0) trivial _ _ 3 _ _ _ _ _ _ [] (by rintro _;kernel_rfl)
noncomputable def zbi7:EnvT:=⟨Tryz.prog,zw [(183,z1s)]⟩
theorem zbi8:(zbi7).Ok:=zd ⟨z7o,trivial⟩
def zwv (a0:Bank): Tr (Bool) :=
 (.bind (zs8 a0) fun v1 =>
 (.guard ((0:Int)≤0∧(0:Int) < 7)
 (.ite ((decide (v1.x0 < 0))||(decide (v1.x0 > 400000)))
  (.leaf false)
  (.guard ((0:Int)≤1∧(1:Int) < 7)
  (.ite ((decide (v1.x1 < 0))||(decide (v1.x1 > 400000)))
   (.leaf false)
   (.guard ((0:Int)≤2∧(2:Int) < 7)
   (.ite ((decide (v1.x2 < 0))||(decide (v1.x2 > 400000)))
    (.leaf false)
    (.guard ((0:Int)≤3∧(3:Int) < 7)
    (.ite ((decide (v1.x3 < 0))||(decide (v1.x3 > 400000)))
     (.leaf false)
     (.guard ((0:Int)≤4∧(4:Int) < 7)
     (.ite ((decide (v1.x4 < 0))||(decide (v1.x4 > 400000)))
      (.leaf false)
      (.guard ((0:Int)≤5∧(5:Int) < 7)
      (.ite ((decide (v1.x5 < 0))||(decide (v1.x5 > 400000)))
       (.leaf false)
       (.guard ((0:Int)≤6∧(6:Int) < 7)
       (.ite ((decide (v1.x6 < 0))||(decide (v1.x6 > 400000)))
        (.leaf false)
        (.leaf ((i64.wrap ((i64.wrap ((i64.wrap ((i64.wrap ((i64.wrap ((i64.wrap ((i64.wrap (0+v1.x0))+v1.x1))+v1.x2))+v1.x3))+v1.x4))+v1.x5))+v1.x6))==400000)))))))))))))))))
def znu (a0:Bank):=(zwv a0).run
def zww:SpecT:=zn 0 (Par.q (Par.ofLP bankL)) 1 [] zwv default (Par.q boolP) 1 []
theorem z1u:ze Tryz.prog 143 (zww).spec :=
 sK (A:=⟨[],[([0,1,0,1,1],8)],[[0,1,2,0,1,0,1,1],[0,1,3,0,1,0,1,1],[0,1,4,0,1,0,1,1],[0,1,5,0,1,0,1,1],[0,1,6,0,1,0,1,1],[0,1,7,0,1,0,1,1],[0,1,8,0,1,0,1,1],[0,1,9,0,1,0,1,1]],[[1],[1,3],[3,7,8],[3,7,8,9],[3,5,7,8],[3,5,7,8,16],[2],[3,7,8],[3,7,8],[2]],[]⟩) zbi8 fM Tryz.func143 (c:=(fb Tryz.f143)) (by kernel_rfl) (Lc:=0) trivial _ _ 3 _ _ _ _ _ _ [] (by rintro a0;kernel_rfl)
noncomputable def zbi9:EnvT:=⟨Tryz.prog,zw [(143,zww),(144,zabq),(183,z1s),(142,z1t)]⟩
theorem zbja:(zbi9).Ok:=zd ⟨z1u,zacv,z7o,z7p,trivial⟩
def z88 (a0:Bank) (a1 a2 a3:Int): Tr (Bank×Int) :=
 (.bind (znu a0) fun v1 =>
 (.guard (((!v1)=false→((zf2 a3).isSome=true)∧True))
 (.ite ((!v1)||(!((zf2 a3).getD default)))
  (.leaf (a0,2))
  (.bind (zs8 a0) fun v2 =>
  (.guard ((0:Int)≤a1∧(a1:Int) < 7)
  (.ite (decide ((v2.get a1) < a3))
   (.leaf (a0,7))
   (.guard ((0:Int)≤a1∧(a1:Int) < 7)
   (.guard ((0:Int)≤a1∧(a1:Int) < 7)
   (.guard ((0:Int)≤a2∧(a2:Int) < 7)
   (.guard ((0:Int)≤a2∧(a2:Int) < 7)
   (.bind (zs9 ((v2.set a1 (i64.wrap ((v2.get a1) - a3))).set a2 (i64.wrap (((v2.set a1 (i64.wrap ((v2.get a1) - a3))).get a2)+a3)))) fun v3 =>
   (.leaf (v3,0)))))))))))))
def zmt (a0:Bank) (a1 a2 a3:Int):=(z88 a0 a1 a2 a3).run
def zx5:SpecT:=zn 0 (LQ.v (Par.ofLP bankL) (LQ.v intP (LQ.v intP (Par.q intP)))) 4 [] (u4 z88) default (LQ.v (Par.ofLP bankL) (Par.q intP)) 2 []
theorem zzm:ze Tryz.prog 145 (zx5).spec :=
 sK (A:=⟨[],[],[],[[1,2,3,4,8],[1,2,3,4,8,18],[8,9],[1,2,3,4,8,10],[1,2,3,4,8,10,26],[8,9],[2,3,8,10],[8,10],[8,9]],[]⟩) zbja fM Tryz.func145 (c:=(fb Tryz.f145)) (by kernel_rfl) (Lc:=0) trivial _ _ 5 _ _ _ _ _ _ [] (by rintro ⟨a0,a1,a2,a3⟩;kernel_rfl)
noncomputable def zbjb:EnvT:=⟨Tryz.prog,zw [(145,zx5)]⟩
theorem zbjc:(zbjb).Ok:=zd ⟨zzm,trivial⟩
def z89 (a0:Bank) (a1 a2:Int): Tr (Bank×Int) :=
 (.ite ((decide (a1 < 0))||(decide (a1 > 3)))
  (.leaf (a0,4))
  (.bind (zmt a0 a1 4 a2) fun v1 =>
  (.leaf (v1.1,v1.2))))
def zzn (a0:Bank) (a1 a2:Int):=(z89 a0 a1 a2).run
def zagj:SpecT:=zn 0 (LQ.v (Par.ofLP bankL) (LQ.v intP (Par.q intP))) 3 [] (u3 z89) default (LQ.v (Par.ofLP bankL) (Par.q intP)) 2 []
theorem zam4:ze Tryz.prog 100 (zagj).spec :=
 sK (A:=⟨[],[],[],[[1,2,3,6],[1,2,3,6,13],[6,7],[6,7]],[]⟩) zbjc fM Tryz.func100 (c:=(fb Tryz.f100)) (by kernel_rfl) (Lc:=0) trivial _ _ 4 _ _ _ _ _ _ [] (by rintro ⟨a0,a1,a2⟩;kernel_rfl)
noncomputable def zbjd:EnvT:=⟨Tryz.prog,zw [(145,zx5)]⟩
theorem zbje:(zbjd).Ok:=zd ⟨zzm,trivial⟩
def z1v (a0:Bank) (a1:Int): Tr (Bank×Int) :=
 (.bind (zmt a0 4 5 a1) fun v1 =>
 (.leaf (v1.1,v1.2)))
def zta (a0:Bank) (a1:Int):=(z1v a0 a1).run
def zaaf:SpecT:=zn 0 (LQ.v (Par.ofLP bankL) (Par.q intP)) 2 [] (u2 z1v) default (LQ.v (Par.ofLP bankL) (Par.q intP)) 2 []
theorem zaim:ze Tryz.prog 102 (zaaf).spec :=
 sK (A:=⟨[],[],[],[[1,2,4],[4,5]],[]⟩) zbje fM Tryz.func102 (c:=(fb Tryz.f102)) (by kernel_rfl) (Lc:=0) trivial _ _ 4 _ _ _ _ _ _ [] (by rintro ⟨a0,a1⟩;kernel_rfl)
noncomputable def zbjf:EnvT:=⟨Tryz.prog,zw [(145,zx5)]⟩
theorem zbjg:(zbjf).Ok:=zd ⟨zzm,trivial⟩
def zacy (a0:Bank) (a1 a2:Int): Tr (Bank×Int) :=
 (.ite ((decide (a1 < 0))||(decide (a1 > 3)))
  (.leaf (a0,4))
  (.bind (zmt a0 5 a1 a2) fun v1 =>
  (.leaf (v1.1,v1.2))))
def z9a (a0:Bank) (a1 a2:Int):=(zacy a0 a1 a2).run
def zakm:SpecT:=zn 0 (LQ.v (Par.ofLP bankL) (LQ.v intP (Par.q intP))) 3 [] (u3 zacy) default (LQ.v (Par.ofLP bankL) (Par.q intP)) 2 []
theorem zaqn:ze Tryz.prog 106 (zakm).spec :=
 sK (A:=⟨[],[],[],[[1,2,3,6],[1,2,3,6,13],[6,7],[6,7]],[]⟩) zbjg fM Tryz.func106 (c:=(fb Tryz.f106)) (by kernel_rfl) (Lc:=0) trivial _ _ 4 _ _ _ _ _ _ [] (by rintro ⟨a0,a1,a2⟩;kernel_rfl)
noncomputable def zbjh:EnvT:=⟨Tryz.prog,zw [(145,zx5)]⟩
theorem zbji:(zbjh).Ok:=zd ⟨zzm,trivial⟩
def z9b (a0:Bank) (a1 a2:Int): Tr (Bank×Int) :=
 (.bind (zmt a0 4 6 a1) fun v1 =>
 (.ite (v1.2 != 0)
  (.leaf (a0,v1.2))
  (.bind (zmt v1.1 5 6 a2) fun v2 =>
  (.ite (v2.2 != 0)
   (.leaf (a0,v2.2))
   (.leaf (v2.1,0))))))
def z5r (a0:Bank) (a1 a2:Int):=(z9b a0 a1 a2).run
def zagk:SpecT:=zn 0 (LQ.v (Par.ofLP bankL) (LQ.v intP (Par.q intP))) 3 [] (u3 z9b) default (LQ.v (Par.ofLP bankL) (Par.q intP)) 2 []
theorem zam5:ze Tryz.prog 104 (zagk).spec :=
 sK (A:=⟨[],[],[],[[1,2,3,6],[2,3,6,8,9],[2,3,6,8,9,17],[6,7],[3,6,8,9],[3,6,8,9,27],[6,7],[6,7]],[]⟩) zbji fM Tryz.func104 (c:=(fb Tryz.f104)) (by kernel_rfl) (Lc:=0) trivial _ _ 5 _ _ _ _ _ _ [] (by rintro ⟨a0,a1,a2⟩;kernel_rfl)
def zty (a0:Int): Tr (Int) :=
 (.ite (decide (a0 < 5))
  (.leaf 1)
  (.guard ((5:Int)≠0)
  (.leaf (i64.wrap (Int.tdiv a0 5)))))
def zrp (a0:Int):=(zty a0).run
def z1w:SpecT:=zn 0 (Par.q intP) 1 [] zty default (Par.q intP) 1 []
theorem zaaz:ze Tryz.prog 95 (z1w).spec :=
 sK (A:=⟨[],[],[],[[0],[0,4],[2],[2]],[]⟩) zhN fM Tryz.func95 (c:=(fb Tryz.f95)) (by kernel_rfl) (Lc:=0) trivial _ _ 2 _ _ _ _ _ _ [] (by rintro a0;kernel_rfl)
noncomputable def zbjj:EnvT:=⟨Tryz.prog,zw [(95,z1w)]⟩
theorem zbjk:(zbjj).Ok:=zd ⟨zaaz,trivial⟩
def zwx (a0 a1:Int): Tr (Meter) :=
 (.bind (zrp a0) fun v1 =>
 (.leaf (⟨v1,i64.wrap (a1+10)⟩:Meter)))
def znv (a0 a1:Int):=(zwx a0 a1).run
def zwy:SpecT:=zn 0 (LQ.v intP (Par.q intP)) 2 [] (u2 zwx) default (Par.q (Par.ofLP meterL)) 1 []
theorem z1x:ze Tryz.prog 50 (zwy).spec :=
 sK (A:=⟨[],[],[],[[0,1,4],[4]],[]⟩) zbjk fM Tryz.func50 (c:=(fb Tryz.f50)) (by kernel_rfl) (Lc:=0) trivial _ _ 3 _ _ _ _ _ _ [] (by rintro ⟨a0,a1⟩;kernel_rfl)
noncomputable def zbjl:EnvT:=⟨Tryz.prog,zw [(50,zwy)]⟩
theorem zbjm:(zbjl).Ok:=zd ⟨z1x,trivial⟩
def ztz (a0:Meter) (a1 a2:Int): Tr (Meter) :=
 (.ite (decide (a0.Next > a2))
  (.leaf a0)
  (.bind (znv a1 a2) fun v1 =>
  (.leaf v1)))
def zmg (a0:Meter) (a1 a2:Int):=(ztz a0 a1 a2).run
def z1y:SpecT:=zn 0 (LQ.v (Par.ofLP meterL) (LQ.v intP (Par.q intP))) 3 [] (u3 ztz) default (Par.q (Par.ofLP meterL)) 1 []
theorem zaa0:ze Tryz.prog 58 (z1y).spec :=
 sK (A:=⟨[],[],[],[[1,2,3,6],[1,2,3,6,10],[6],[6]],[]⟩) zbjm fM Tryz.func58 (c:=(fb Tryz.f58)) (by kernel_rfl) (Lc:=0) trivial _ _ 4 _ _ _ _ _ _ [] (by rintro ⟨a0,a1,a2⟩;kernel_rfl)
def zt0 (a0:Meter) (a1:Int): Tr (Meter×Bool) :=
 (.ite (decide (a0.Left < 1))
  (.leaf (a0,false))
  (.leaf ((⟨i64.wrap (a0.Left - a1),a0.Next⟩:Meter),true)))
def zrq (a0:Meter) (a1:Int):=(zt0 a0 a1).run
def z1z:SpecT:=zn 0 (LQ.v (Par.ofLP meterL) (Par.q intP)) 2 [] (u2 zt0) default (LQ.v (Par.ofLP meterL) (Par.q boolP)) 2 []
theorem zaa1:ze Tryz.prog 105 (z1z).spec :=
 sK (A:=⟨[],[],[],[[1,2,4],[1,2,4,8],[4,5],[4,5]],[]⟩) zhN fM Tryz.func105 (c:=(fb Tryz.f105)) (by kernel_rfl) (Lc:=0) trivial _ _ 4 _ _ _ _ _ _ [] (by rintro ⟨a0,a1⟩;kernel_rfl)
end
