/-
  The functions, each by its tree.
-/
import Derived.Test.YtobfadhgiaphnaaGreatXAbC
import Derived.Test.YtobfadhgiaphnaaGreatXFacts
namespace Go.Proofs.YtobfadhgiaphnaaGreat.Ab
open Go Go.RowKit
open Go.IntKind (i64 u64)
set_option maxRecDepth 100000
set_option linter.unusedVariables false
set_option linter.unusedSimpArgs false
noncomputable section
noncomputable abbrev fb (f:Func):Code:=f.body.getD .skip
noncomputable def zyN:EnvT:=⟨Tryz.prog,zw []⟩
theorem zhN:zyN.Ok:=zd trivial
theorem fM:Tryz.prog.follows .mixedOrders=true:=Facts.mix
def z83 (a0:Int): Tr (Bool) :=
 (.leaf ((decide (a0≥0))&&(decide (a0≤1125899906842624))))
def zao (a0:Int):=(z83 a0).run
def zne:SpecT:=zn 0 (Par.q intP) 1 [] z83 default (Par.q boolP) 1 []
theorem zmr:ze Tryz.prog 148 (zne).spec :=
 sK (A:=⟨[],[],[],[[0],[2]],[]⟩) zhN fM Tryz.func148 (c:=(fb Tryz.f148)) (by kernel_rfl) (Lc:=0) trivial _ _ 2 _ _ _ _ _ _ [] (by rintro a0;kernel_rfl)
def zpe (a0 a1:Int): Tr (Int×Int) :=
 (.guard ((0:Int)≤32)
 (.guard ((0:Int)≤32)
 (.guard ((0:Int)≤32)
 (.guard ((0:Int)≤32)
 (.guard ((0:Int)≤32)
 (.leaf (u64.wrap ((u64.wrap ((u64.wrap ((Int.fdiv a0 (2 ^ 32))*(Int.fdiv a1 (2 ^ 32))))+(Int.fdiv (u64.wrap ((u64.wrap ((Int.fdiv a0 (2 ^ 32))*(u64.wrap (((BitVec.ofInt 64 a1 &&& BitVec.ofInt 64 4294967295).toNat:Nat):Int))))+(Int.fdiv (u64.wrap ((u64.wrap (((BitVec.ofInt 64 a0 &&& BitVec.ofInt 64 4294967295).toNat:Nat):Int))*(u64.wrap (((BitVec.ofInt 64 a1 &&& BitVec.ofInt 64 4294967295).toNat:Nat):Int)))) (2 ^ 32)))) (2 ^ 32))))+(Int.fdiv (u64.wrap ((u64.wrap (((BitVec.ofInt 64 (u64.wrap ((u64.wrap ((Int.fdiv a0 (2 ^ 32))*(u64.wrap (((BitVec.ofInt 64 a1 &&& BitVec.ofInt 64 4294967295).toNat:Nat):Int))))+(Int.fdiv (u64.wrap ((u64.wrap (((BitVec.ofInt 64 a0 &&& BitVec.ofInt 64 4294967295).toNat:Nat):Int))*(u64.wrap (((BitVec.ofInt 64 a1 &&& BitVec.ofInt 64 4294967295).toNat:Nat):Int)))) (2 ^ 32)))) &&& BitVec.ofInt 64 4294967295).toNat:Nat):Int))+(u64.wrap ((u64.wrap (((BitVec.ofInt 64 a0 &&& BitVec.ofInt 64 4294967295).toNat:Nat):Int))*(Int.fdiv a1 (2 ^ 32)))))) (2 ^ 32))),u64.wrap (a0*a1))))))))
def znq (a0 a1:Int):=(zpe a0 a1).run
def zx0:SpecT:=zn 0 (LQ.seq (Par.q (kP .u64)) (Par.q (kP .u64))) 2 [] (u2 zpe) default (LQ.seq (Par.q (kP .u64)) (Par.q (kP .u64))) 2 []
theorem z7c:ze Tryz.prog 153 (zx0).spec :=
 sK (A:=⟨[],[],[],[[0,1],[0,1,6],[0,1,6,7],[0,1,6,7,8],[0,1,6,7,8,9],[0,1,6,7,8,9,10],[0,1,6,7,9,11],[0,1,6,7,9,11,12],[0,1,6,7,9,12,13],[0,1,7,9,12,13],[0,1,4],[4,5]],[]⟩) zhN fM Tryz.func153 (c:=(fb Tryz.f153)) (by kernel_rfl) (Lc:=0) trivial _ _ 2 _ _ _ _ _ _ [] (by rintro ⟨a0,a1⟩;kernel_rfl)
def zpf (a0:Int): Tr (Int) :=
 (.ite (decide (a0≥4294967296))
  (.guard ((0:Int)≤32)
  (.ite (decide ((Int.fdiv a0 (2 ^ 32))≥65536))
   (.guard ((0:Int)≤16)
   (.ite (decide ((Int.fdiv (Int.fdiv a0 (2 ^ 32)) (2 ^ 16))≥256))
    (.guard ((0:Int)≤8)
    (.guard ((0:Int)≤(IntKind.u8.wrap (Int.fdiv (Int.fdiv (Int.fdiv a0 (2 ^ 32)) (2 ^ 16)) (2 ^ 8)))∧(IntKind.u8.wrap (Int.fdiv (Int.fdiv (Int.fdiv a0 (2 ^ 32)) (2 ^ 16)) (2 ^ 8))) < ((tabB.size:Nat):Int))
    (.leaf (i64.wrap (56+(i64.wrap (((tabB.data.toList.getD (IntKind.u8.wrap (Int.fdiv (Int.fdiv (Int.fdiv a0 (2 ^ 32)) (2 ^ 16)) (2 ^ 8))).toNat 0).toNat:Nat):Int)))))))
    (.guard ((0:Int)≤(IntKind.u8.wrap (Int.fdiv (Int.fdiv a0 (2 ^ 32)) (2 ^ 16)))∧(IntKind.u8.wrap (Int.fdiv (Int.fdiv a0 (2 ^ 32)) (2 ^ 16))) < ((tabB.size:Nat):Int))
    (.leaf (i64.wrap (48+(i64.wrap (((tabB.data.toList.getD (IntKind.u8.wrap (Int.fdiv (Int.fdiv a0 (2 ^ 32)) (2 ^ 16))).toNat 0).toNat:Nat):Int))))))))
   (.ite (decide ((Int.fdiv a0 (2 ^ 32))≥256))
    (.guard ((0:Int)≤8)
    (.guard ((0:Int)≤(IntKind.u8.wrap (Int.fdiv (Int.fdiv a0 (2 ^ 32)) (2 ^ 8)))∧(IntKind.u8.wrap (Int.fdiv (Int.fdiv a0 (2 ^ 32)) (2 ^ 8))) < ((tabB.size:Nat):Int))
    (.leaf (i64.wrap (40+(i64.wrap (((tabB.data.toList.getD (IntKind.u8.wrap (Int.fdiv (Int.fdiv a0 (2 ^ 32)) (2 ^ 8))).toNat 0).toNat:Nat):Int)))))))
    (.guard ((0:Int)≤(IntKind.u8.wrap (Int.fdiv a0 (2 ^ 32)))∧(IntKind.u8.wrap (Int.fdiv a0 (2 ^ 32))) < ((tabB.size:Nat):Int))
    (.leaf (i64.wrap (32+(i64.wrap (((tabB.data.toList.getD (IntKind.u8.wrap (Int.fdiv a0 (2 ^ 32))).toNat 0).toNat:Nat):Int)))))))))
  (.ite (decide (a0≥65536))
   (.guard ((0:Int)≤16)
   (.ite (decide ((Int.fdiv a0 (2 ^ 16))≥256))
    (.guard ((0:Int)≤8)
    (.guard ((0:Int)≤(IntKind.u8.wrap (Int.fdiv (Int.fdiv a0 (2 ^ 16)) (2 ^ 8)))∧(IntKind.u8.wrap (Int.fdiv (Int.fdiv a0 (2 ^ 16)) (2 ^ 8))) < ((tabB.size:Nat):Int))
    (.leaf (i64.wrap (24+(i64.wrap (((tabB.data.toList.getD (IntKind.u8.wrap (Int.fdiv (Int.fdiv a0 (2 ^ 16)) (2 ^ 8))).toNat 0).toNat:Nat):Int)))))))
    (.guard ((0:Int)≤(IntKind.u8.wrap (Int.fdiv a0 (2 ^ 16)))∧(IntKind.u8.wrap (Int.fdiv a0 (2 ^ 16))) < ((tabB.size:Nat):Int))
    (.leaf (i64.wrap (16+(i64.wrap (((tabB.data.toList.getD (IntKind.u8.wrap (Int.fdiv a0 (2 ^ 16))).toNat 0).toNat:Nat):Int))))))))
   (.ite (decide (a0≥256))
    (.guard ((0:Int)≤8)
    (.guard ((0:Int)≤(IntKind.u8.wrap (Int.fdiv a0 (2 ^ 8)))∧(IntKind.u8.wrap (Int.fdiv a0 (2 ^ 8))) < ((tabB.size:Nat):Int))
    (.leaf (i64.wrap (8+(i64.wrap (((tabB.data.toList.getD (IntKind.u8.wrap (Int.fdiv a0 (2 ^ 8))).toNat 0).toNat:Nat):Int)))))))
    (.guard ((0:Int)≤(IntKind.u8.wrap a0)∧(IntKind.u8.wrap a0) < ((tabB.size:Nat):Int))
    (.leaf (i64.wrap (0+(i64.wrap (((tabB.data.toList.getD (IntKind.u8.wrap a0).toNat 0).toNat:Nat):Int)))))))))
def znr (a0:Int):=(zpf a0).run
def zx1:SpecT:=zn 0 (Par.q (kP .u64)) 1 [] zpf default (Par.q intP) 1 []
theorem z7d:ze Tryz.prog 202 (zx1).spec :=
 sK (A:=⟨[],[],[],[[0,2],[0,2,4],[0],[0,2],[0,2,8],[0,2],[0,2],[0,2,14],[0,2],[0,2],[2]],[]⟩) zhN fM Tryz.func202 (c:=(fb Tryz.f202)) (by kernel_rfl) (Lc:=0) trivial _ _ 2 _ _ _ _ _ _ [] (by rintro a0;kernel_rfl)
noncomputable def zy3:EnvT:=⟨Tryz.prog,zw [(202,zx1)]⟩
theorem zh3:(zy3).Ok:=zd ⟨z7d,trivial⟩
def zfs (a0:Int): Tr (Int) :=
 (.bind (znr a0) fun v1 =>
 (.leaf (i64.wrap (64 - v1))))
def zfg (a0:Int):=(zfs a0).run
def zle:SpecT:=zn 0 (Par.q (kP .u64)) 1 [] zfs default (Par.q intP) 1 []
theorem ztu:ze Tryz.prog 186 (zle).spec :=
 sK (A:=⟨[],[],[],[[0],[2]],[]⟩) zh3 fM Tryz.func186 (c:=(fb Tryz.f186)) (by kernel_rfl) (Lc:=0) trivial _ _ 2 _ _ _ _ _ _ [] (by rintro a0;kernel_rfl)
def zv4:List (List Nat):=[[0,1,2],[0,1,2,20],[0,1,2],[0,1,2,24],[0,1,2],[0,1,2,27],[6,7],[0,1,2,8],[0,1,2,8],[0,1,2,8,9],[0,1,2,8,9,10],[1,2,8,9,10,11],[2,8,9,10,11,12],[2,8,9,10,11,12,13],[2,8,9,10,11,13,14],[2,8,9,10,11,13,14,15],[2,8,9,10,11,13,14,15,16],[2,8,9,10,11,13,14,15,16,78],[2,8,9,10,11,13,14,15,16],[2,8,9,10,11,13,14,15,16],[2,8,9,10,11,13,14,15,16,85],[2,8,9,10,14,15,17],[2,8,9,10,14,15,17,18],[2,8,9,10,14,15,16,17,18],[2,8,9,10,14,15,16,17,18,113],[2,8,9,10,14,15,16,17,18],[2,8,9,10,14,15,16,17,18],[2,8,9,10,14,15,16,17,18,120],[6,7]]
noncomputable def zy4:EnvT:=⟨Tryz.prog,zw [(186,zle)]⟩
theorem zh4:(zy4).Ok:=zd ⟨ztu,trivial⟩
def zdd (x0 x1 x2 x3 x4 x5 x6 x7 x8:Int): Tr ((Int×Int×Int×Int×Int×Int×Int×Int×Int)⊕(Int×Int×Int×Int×Int×Int×Int×Int)) :=
 (.ite ((decide (x7≥4294967296))||(decide ((u64.wrap (x7*x3)) > (u64.wrap ((u64.wrap (4294967296*x8))+x5)))))
  (.ite (decide ((u64.wrap (x8+x2))≥4294967296))
   (.leaf (.inr (x0,x1,x2,x3,x4,x5,x6,u64.wrap (x7 - 1))))
   (.leaf (.inl (x0,x1,x2,x3,x4,x5,x6,u64.wrap (x7 - 1),u64.wrap (x8+x2)))))
  (.leaf (.inr (x0,x1,x2,x3,x4,x5,x6,x7))))
def zdy (x0 x1 x2 x3 x4 x5 x6 x7 x8:Int):=zbl (fun s:Int×Int×Int×Int×Int×Int×Int×Int×Int=>(zdd s.1 s.2.1 s.2.2.1 s.2.2.2.1 s.2.2.2.2.1 s.2.2.2.2.2.1 s.2.2.2.2.2.2.1 s.2.2.2.2.2.2.2.1 s.2.2.2.2.2.2.2.2).run) (x0,x1,x2,x3,x4,x5,x6,x7,x8)
def za4a:Ann:=⟨[],[],[],zv4,[]⟩
def zq4a:=EndD.mk (LQ.seq (Par.q (kP .u64)) (LQ.seq (Par.q (kP .u64)) (LQ.seq (Par.q (kP .u64)) (LQ.seq (Par.q (kP .u64)) (LQ.seq (Par.q (kP .u64)) (LQ.seq (Par.q (kP .u64)) (LQ.seq (Par.q (kP .u64)) (LQ.seq (Par.q (kP .u64)) (Par.q (kP .u64)))))))))) ⟨[2,8,9,10,11,13,14,15,16],[]⟩ []
def za9b:=EndD.mk (LQ.seq (Par.q (kP .u64)) (LQ.seq (Par.q (kP .u64)) (LQ.seq (Par.q (kP .u64)) (LQ.seq (Par.q (kP .u64)) (LQ.seq (Par.q (kP .u64)) (LQ.seq (Par.q (kP .u64)) (LQ.seq (Par.q (kP .u64)) (Par.q (kP .u64))))))))) ⟨[2,8,9,10,11,13,14,15],[]⟩ []
def zl4a:St→Option LR:=L1 135 2 0 zq4a (.exit 0) za9b (u9 zdd)
def zs4a:=sub (fb Tryz.f154) [0,0,1,1,1,1,1,1,1,1,1,1,1,1,1,1]
theorem zk4a:zk (zy4).env 0 zs4a zl4a :=
 zb5 (A:=za4a) zh4 fM trivial (k:=z8 zs4a) (by kernel_rfl) rfl (by rintro ⟨x0,x1,x2,x3,x4,x5,x6,x7,x8⟩;kernel_rfl)
def zde (x0 x1 x2 x3 x4 x5 x6 x7 x8:Int): Tr ((Int×Int×Int×Int×Int×Int×Int×Int×Int)⊕(Int×Int×Int×Int×Int×Int)) :=
 (.ite ((decide (x8≥4294967296))||(decide ((u64.wrap (x8*x3)) > (u64.wrap ((u64.wrap (4294967296*x6))+x4)))))
  (.ite (decide ((u64.wrap (x6+x2))≥4294967296))
   (.leaf (.inr (x0,x1,x4,x5,x7,u64.wrap (x8 - 1))))
   (.leaf (.inl (x0,x1,x2,x3,x4,x5,u64.wrap (x6+x2),x7,u64.wrap (x8 - 1)))))
  (.leaf (.inr (x0,x1,x4,x5,x7,x8))))
def zdz (x0 x1 x2 x3 x4 x5 x6 x7 x8:Int):=zbl (fun s:Int×Int×Int×Int×Int×Int×Int×Int×Int=>(zde s.1 s.2.1 s.2.2.1 s.2.2.2.1 s.2.2.2.2.1 s.2.2.2.2.2.1 s.2.2.2.2.2.2.1 s.2.2.2.2.2.2.2.1 s.2.2.2.2.2.2.2.2).run) (x0,x1,x2,x3,x4,x5,x6,x7,x8)
def za4b:Ann:=⟨[],[],[],zv4,[]⟩
def zq4b:=EndD.mk (LQ.seq (Par.q (kP .u64)) (LQ.seq (Par.q (kP .u64)) (LQ.seq (Par.q (kP .u64)) (LQ.seq (Par.q (kP .u64)) (LQ.seq (Par.q (kP .u64)) (LQ.seq (Par.q (kP .u64)) (LQ.seq (Par.q (kP .u64)) (LQ.seq (Par.q (kP .u64)) (Par.q (kP .u64)))))))))) ⟨[2,8,9,10,14,15,16,17,18],[]⟩ []
def za9c:=EndD.mk (LQ.seq (Par.q (kP .u64)) (LQ.seq (Par.q (kP .u64)) (LQ.seq (Par.q (kP .u64)) (LQ.seq (Par.q (kP .u64)) (LQ.seq (Par.q (kP .u64)) (Par.q (kP .u64))))))) ⟨[2,8,14,15,17,18],[]⟩ []
def zl4b:St→Option LR:=L1 135 2 0 zq4b (.exit 2) za9c (u9 zde)
def zs4b:=sub (fb Tryz.f154) [0,0,1,1,1,1,1,1,1,1,1,1,1,1,1,1,1,1,1,1]
theorem zk4b:zk (zy4).env 0 zs4b zl4b :=
 zb5 (A:=za4b) zh4 fM trivial (k:=z8 zs4b) (by kernel_rfl) rfl (by rintro ⟨x0,x1,x2,x3,x4,x5,x6,x7,x8⟩;kernel_rfl)
def zpg (a0 a1 a2:Int): Tr (Int×Int) :=
 (.ite (a2==0)
  .fail
  (.ite (decide (a2≤a0))
   .fail
   (.ite (a0==0)
    (.guard (a2≠0)
    (.guard (a2≠0)
    (.leaf (u64.wrap (Int.tdiv a1 a2),Int.tmod a1 a2))))
    (.bind (zfg a2) fun v1 =>
    (.guard ((0:Int)≤(u64.wrap v1))
    (.guard ((0:Int)≤32)
    (.guard ((0:Int)≤(u64.wrap v1))
    (.guard ((0:Int)≤(u64.wrap (64 - (u64.wrap v1))))
    (.guard ((0:Int)≤(u64.wrap v1))
    (.guard ((0:Int)≤32)
    (.guard ((Int.fdiv (u64.wrap (a2*2 ^ (min (u64.wrap v1).toNat 64))) (2 ^ 32))≠0)
    (.bind (zdy (u64.wrap (a2*2 ^ (min (u64.wrap v1).toNat 64))) (u64.wrap v1) (Int.fdiv (u64.wrap (a2*2 ^ (min (u64.wrap v1).toNat 64))) (2 ^ 32)) (u64.wrap (((BitVec.ofInt 64 (u64.wrap (a2*2 ^ (min (u64.wrap v1).toNat 64))) &&& BitVec.ofInt 64 4294967295).toNat:Nat):Int)) (u64.wrap (((BitVec.ofInt 64 (u64.wrap (a0*2 ^ (min (u64.wrap v1).toNat 64))) ||| BitVec.ofInt 64 (Int.fdiv a1 (2 ^ (min (u64.wrap (64 - (u64.wrap v1))).toNat 64)))).toNat:Nat):Int)) (Int.fdiv (u64.wrap (a1*2 ^ (min (u64.wrap v1).toNat 64))) (2 ^ 32)) (u64.wrap (((BitVec.ofInt 64 (u64.wrap (a1*2 ^ (min (u64.wrap v1).toNat 64))) &&& BitVec.ofInt 64 4294967295).toNat:Nat):Int)) (u64.wrap (Int.tdiv (u64.wrap (((BitVec.ofInt 64 (u64.wrap (a0*2 ^ (min (u64.wrap v1).toNat 64))) ||| BitVec.ofInt 64 (Int.fdiv a1 (2 ^ (min (u64.wrap (64 - (u64.wrap v1))).toNat 64)))).toNat:Nat):Int)) (Int.fdiv (u64.wrap (a2*2 ^ (min (u64.wrap v1).toNat 64))) (2 ^ 32)))) (u64.wrap ((u64.wrap (((BitVec.ofInt 64 (u64.wrap (a0*2 ^ (min (u64.wrap v1).toNat 64))) ||| BitVec.ofInt 64 (Int.fdiv a1 (2 ^ (min (u64.wrap (64 - (u64.wrap v1))).toNat 64)))).toNat:Nat):Int)) - (u64.wrap ((u64.wrap (Int.tdiv (u64.wrap (((BitVec.ofInt 64 (u64.wrap (a0*2 ^ (min (u64.wrap v1).toNat 64))) ||| BitVec.ofInt 64 (Int.fdiv a1 (2 ^ (min (u64.wrap (64 - (u64.wrap v1))).toNat 64)))).toNat:Nat):Int)) (Int.fdiv (u64.wrap (a2*2 ^ (min (u64.wrap v1).toNat 64))) (2 ^ 32))))*(Int.fdiv (u64.wrap (a2*2 ^ (min (u64.wrap v1).toNat 64))) (2 ^ 32))))))) fun v2 =>
    (.guard (v2.2.2.1≠0)
    (.bind (zdz v2.1 v2.2.1 v2.2.2.1 v2.2.2.2.1 v2.2.2.2.2.2.2.1 v2.2.2.2.2.2.2.2 (u64.wrap ((u64.wrap ((u64.wrap ((u64.wrap (v2.2.2.2.2.1*4294967296))+v2.2.2.2.2.2.1)) - (u64.wrap (v2.2.2.2.2.2.2.2*v2.1)))) - (u64.wrap ((u64.wrap (Int.tdiv (u64.wrap ((u64.wrap ((u64.wrap (v2.2.2.2.2.1*4294967296))+v2.2.2.2.2.2.1)) - (u64.wrap (v2.2.2.2.2.2.2.2*v2.1)))) v2.2.2.1))*v2.2.2.1)))) (u64.wrap ((u64.wrap ((u64.wrap (v2.2.2.2.2.1*4294967296))+v2.2.2.2.2.2.1)) - (u64.wrap (v2.2.2.2.2.2.2.2*v2.1)))) (u64.wrap (Int.tdiv (u64.wrap ((u64.wrap ((u64.wrap (v2.2.2.2.2.1*4294967296))+v2.2.2.2.2.2.1)) - (u64.wrap (v2.2.2.2.2.2.2.2*v2.1)))) v2.2.2.1))) fun v3 =>
    (.guard ((0:Int)≤v3.2.1)
    (.leaf (u64.wrap ((u64.wrap (v3.2.2.2.1*4294967296))+v3.2.2.2.2.2),Int.fdiv (u64.wrap ((u64.wrap ((u64.wrap (v3.2.2.2.2.1*4294967296))+v3.2.2.1)) - (u64.wrap (v3.2.2.2.2.2*v3.1)))) (2 ^ (min v3.2.1.toNat 64)))))))))))))))))))
def zns (a0 a1 a2:Int):=(zpg a0 a1 a2).run
def zx2:SpecT:=zn 0 (LQ.seq (Par.q (kP .u64)) (LQ.seq (Par.q (kP .u64)) (Par.q (kP .u64)))) 3 [] (u3 zpg) default (LQ.seq (Par.q (kP .u64)) (Par.q (kP .u64))) 2 []
theorem z7e:ze Tryz.prog 154 (zx2).spec :=
 sK (A:=⟨[([0,0,1,1,1,1,1,1,1,1,1,1,1,1,1,1],zl4a),([0,0,1,1,1,1,1,1,1,1,1,1,1,1,1,1,1,1,1,1],zl4b)],[],[],zv4,[]⟩) zh4 fM Tryz.func154 (c:=(fb Tryz.f154)) (by kernel_rfl) (Lc:=0) ⟨zk4a,zk4b,trivial⟩ _ _ 2 _ _ _ _ _ _ [] (by rintro ⟨a0,a1,a2⟩;kernel_rfl)
noncomputable def zy5:EnvT:=⟨Tryz.prog,zw [(153,zx0),(154,zx2)]⟩
theorem zh5:(zy5).Ok:=zd ⟨z7c,z7e,trivial⟩
def zwm (a0 a1 a2:Int): Tr (Int×Int) :=
 (.ite (((decide (a0 < 0))||(decide (a1 < 0)))||(decide (a2 < 1)))
  (.leaf (0,2))
  (.bind (znq (u64.wrap a0) (u64.wrap a1)) fun v1 =>
  (.ite (decide (v1.1≥(u64.wrap a2)))
   (.leaf (0,2))
   (.bind (zns v1.1 v1.2 (u64.wrap a2)) fun v2 =>
   (.ite (decide (v2.1 > 1125899906842624))
    (.leaf (0,2))
    (.leaf (i64.wrap v2.1,0)))))))
def zai (a0 a1 a2:Int):=(zwm a0 a1 a2).run
def zqi:SpecT:=zn 0 (LQ.v intP (LQ.v intP (Par.q intP))) 3 [] (u3 zwm) default (LQ.v intP (Par.q intP)) 2 []
theorem ztv:ze Tryz.prog 115 (zqi).spec :=
 sK (A:=⟨[],[],[],[[0,1,2],[0,1,2,21],[6,7],[2,8,9],[2,8,9,33],[6,7],[10],[10,43],[6,7],[6,7]],[]⟩) zh5 fM Tryz.func115 (c:=(fb Tryz.f115)) (by kernel_rfl) (Lc:=0) trivial _ _ 2 _ _ _ _ _ _ [] (by rintro ⟨a0,a1,a2⟩;kernel_rfl)
noncomputable def zy6:EnvT:=⟨Tryz.prog,zw [(148,zne),(115,zqi)]⟩
theorem zh6:(zy6).Ok:=zd ⟨zmr,ztv,trivial⟩
def z1j (a0 a1:Int): Tr (Int×Int) :=
 (.bind (zao a0) fun v1 =>
 (.ite (((!v1)||(decide (a1 < 0)))||(decide (a1 > 1000)))
  (.leaf (0,2))
  (.bind (zai a0 a1 1000) fun v2 =>
  (.leaf (v2.1,v2.2)))))
def zs3 (a0 a1:Int):=(z1j a0 a1).run
def zaaa:SpecT:=zn 0 (LQ.v intP (Par.q intP)) 2 [] (u2 z1j) default (LQ.v intP (Par.q intP)) 2 []
theorem zaii:ze Tryz.prog 119 (zaaa).spec :=
 sK (A:=⟨[],[],[],[[0,1],[0,1,16],[4,5],[4,5]],[]⟩) zh6 fM Tryz.func119 (c:=(fb Tryz.f119)) (by kernel_rfl) (Lc:=0) trivial _ _ 2 _ _ _ _ _ _ [] (by rintro ⟨a0,a1⟩;kernel_rfl)
def zaij (a0:Int): Tr (Bool) :=
 (.leaf ((decide (a0≥0))&&(decide (a0≤1125899906842624))))
def zf2 (a0:Int):=(zaij a0).run
def zabq:SpecT:=zn 0 (Par.q intP) 1 [] zaij default (Par.q boolP) 1 []
theorem zacv:ze Tryz.prog 144 (zabq).spec :=
 sK (A:=⟨[],[],[],[[0],[2]],[]⟩) zhN fM Tryz.func144 (c:=(fb Tryz.f144)) (by kernel_rfl) (Lc:=0) trivial _ _ 2 _ _ _ _ _ _ [] (by rintro a0;kernel_rfl)
def za9d:List (List Nat):=[[0,1,2],[0,1,2,21],[6,7],[0,1,2,8,9],[0,1,2,8,9,10],[0,1,2,8,9,10,23],[0,1,2,8,9,10],[0,1,2,8,9,10],[0,1,2,8,9,10,32],[0,1,2,8,9,10],[0,1,2,8,9,10],[0,1,2,8,9,10,48],[0,1,2,8,9,10],[0,1,2,8,9,10,11],[0,1,2,8,9,10,11,61],[0,1,2,8,9,10],[0,1,2,8,9,10],[0,1,2,8,9,10,77],[6,7],[6,7]]
def zj2 (x0 x1 x2 x3 x4 x5:Int): Tr ((Int×Int×Int×Int×Int×Int)⊕((Int×Int)⊕(Int))) :=
 (.ite (decide (x5≥0))
  (.ite (decide (x4≥(i64.wrap (x2 - x4))))
   (.guard ((0:Int)≤(u64.wrap x5))
   (.guard ((2:Int)≠0)
   (.ite ((Int.tmod (Int.fdiv x0 (2 ^ (min (u64.wrap x5).toNat 64))) 2)==1)
    (.guard (x2≠0)
    (.guard (x2≠0)
    (.ite (decide ((i64.wrap (x4 - (i64.wrap (x2 - x4))))≥(i64.wrap (x2 - (Int.tmod x1 x2)))))
     (.ite ((decide ((i64.wrap ((i64.wrap ((i64.wrap ((i64.wrap (2*x3))+1))+(i64.wrap (Int.tdiv x1 x2))))+1)) > 1125899906842624))||(decide ((i64.wrap ((i64.wrap ((i64.wrap ((i64.wrap (2*x3))+1))+(i64.wrap (Int.tdiv x1 x2))))+1)) < 0)))
      (.leaf (.inr (.inl (0,2))))
      (.leaf (.inl (x0,x1,x2,i64.wrap ((i64.wrap ((i64.wrap ((i64.wrap (2*x3))+1))+(i64.wrap (Int.tdiv x1 x2))))+1),i64.wrap ((i64.wrap (x4 - (i64.wrap (x2 - x4)))) - (i64.wrap (x2 - (Int.tmod x1 x2)))),i64.wrap (x5 - 1)))))
     (.ite ((decide ((i64.wrap ((i64.wrap ((i64.wrap (2*x3))+1))+(i64.wrap (Int.tdiv x1 x2)))) > 1125899906842624))||(decide ((i64.wrap ((i64.wrap ((i64.wrap (2*x3))+1))+(i64.wrap (Int.tdiv x1 x2)))) < 0)))
      (.leaf (.inr (.inl (0,2))))
      (.leaf (.inl (x0,x1,x2,i64.wrap ((i64.wrap ((i64.wrap (2*x3))+1))+(i64.wrap (Int.tdiv x1 x2))),i64.wrap ((i64.wrap (x4 - (i64.wrap (x2 - x4))))+(Int.tmod x1 x2)),i64.wrap (x5 - 1))))))))
    (.ite ((decide ((i64.wrap ((i64.wrap (2*x3))+1)) > 1125899906842624))||(decide ((i64.wrap ((i64.wrap (2*x3))+1)) < 0)))
     (.leaf (.inr (.inl (0,2))))
     (.leaf (.inl (x0,x1,x2,i64.wrap ((i64.wrap (2*x3))+1),i64.wrap (x4 - (i64.wrap (x2 - x4))),i64.wrap (x5 - 1))))))))
   (.guard ((0:Int)≤(u64.wrap x5))
   (.guard ((2:Int)≠0)
   (.ite ((Int.tmod (Int.fdiv x0 (2 ^ (min (u64.wrap x5).toNat 64))) 2)==1)
    (.guard (x2≠0)
    (.guard (x2≠0)
    (.ite (decide ((i64.wrap (x4+x4))≥(i64.wrap (x2 - (Int.tmod x1 x2)))))
     (.ite ((decide ((i64.wrap ((i64.wrap ((i64.wrap (2*x3))+(i64.wrap (Int.tdiv x1 x2))))+1)) > 1125899906842624))||(decide ((i64.wrap ((i64.wrap ((i64.wrap (2*x3))+(i64.wrap (Int.tdiv x1 x2))))+1)) < 0)))
      (.leaf (.inr (.inl (0,2))))
      (.leaf (.inl (x0,x1,x2,i64.wrap ((i64.wrap ((i64.wrap (2*x3))+(i64.wrap (Int.tdiv x1 x2))))+1),i64.wrap ((i64.wrap (x4+x4)) - (i64.wrap (x2 - (Int.tmod x1 x2)))),i64.wrap (x5 - 1)))))
     (.ite ((decide ((i64.wrap ((i64.wrap (2*x3))+(i64.wrap (Int.tdiv x1 x2)))) > 1125899906842624))||(decide ((i64.wrap ((i64.wrap (2*x3))+(i64.wrap (Int.tdiv x1 x2)))) < 0)))
      (.leaf (.inr (.inl (0,2))))
      (.leaf (.inl (x0,x1,x2,i64.wrap ((i64.wrap (2*x3))+(i64.wrap (Int.tdiv x1 x2))),i64.wrap ((i64.wrap (x4+x4))+(Int.tmod x1 x2)),i64.wrap (x5 - 1))))))))
    (.ite ((decide ((i64.wrap (2*x3)) > 1125899906842624))||(decide ((i64.wrap (2*x3)) < 0)))
     (.leaf (.inr (.inl (0,2))))
     (.leaf (.inl (x0,x1,x2,i64.wrap (2*x3),i64.wrap (x4+x4),i64.wrap (x5 - 1)))))))))
  (.leaf (.inr (.inr x3))))
def z0p (x0 x1 x2 x3 x4 x5:Int):=zbl (fun s:Int×Int×Int×Int×Int×Int=>(zj2 s.1 s.2.1 s.2.2.1 s.2.2.2.1 s.2.2.2.2.1 s.2.2.2.2.2).run) (x0,x1,x2,x3,x4,x5)
def za9e:Ann:=⟨[],[],[],za9d,[]⟩
def za9f:=EndD.mk (LQ.v intP (LQ.v intP (LQ.v intP (LQ.v intP (LQ.v intP (Par.q intP)))))) ⟨[0,1,2,8,9,10],[]⟩ []
def zawr:=EndD.mk (LQ.v intP (Par.q intP)) ⟨[6,7],[]⟩ []
def zaws:=EndD.mk (Par.q intP) ⟨[8],[]⟩ []
def za10:St→Option LR:=L2 79 2 0 za9f .ret zawr (.exit 0) zaws (u6 zj2)
def zs103a:=sub (fb Tryz.f99) [0,1,0,1,1,1]
theorem za9g:zk (zyN).env 0 zs103a za10 :=
 zgs (A:=za9e) zhN fM trivial (k:=z8 zs103a) (by kernel_rfl) rfl rfl (by rintro ⟨x0,x1,x2,x3,x4,x5⟩;kernel_rfl)
def z1k (a0 a1 a2:Int): Tr (Int×Int) :=
 (.ite (((decide (a0 < 0))||(decide (a1 < 0)))||(decide (a2 < 1)))
  (.leaf (0,2))
  (.two (z0p a0 a1 a2 0 0 62) (fun v1 =>
   (.leaf (v1.1,v1.2))) (fun v2 =>
   (.leaf (v2,0)))))
def zs4 (a0 a1 a2:Int):=(z1k a0 a1 a2).run
def z1l:SpecT:=zn 0 (LQ.v intP (LQ.v intP (Par.q intP))) 3 [] (u3 z1k) default (LQ.v intP (Par.q intP)) 2 []
theorem z7f:ze Tryz.prog 99 (z1l).spec :=
 sK (A:=⟨[([0,1,0,1,1,1],za10)],[],[],za9d,[]⟩) zhN fM Tryz.func99 (c:=(fb Tryz.f99)) (by kernel_rfl) (Lc:=0) ⟨za9g,trivial⟩ _ _ 2 _ _ _ _ _ _ [] (by rintro ⟨a0,a1,a2⟩;kernel_rfl)
noncomputable def zbi3:EnvT:=⟨Tryz.prog,zw [(144,zabq)]⟩
theorem zbi4:(zbi3).Ok:=zd ⟨zacv,trivial⟩
def z84 (a0 a1:Int): Tr (Int×Int) :=
 (.bind (zf2 a0) fun v1 =>
 (.ite (((!v1)||(decide (a1 < 0)))||(decide (a1 > 1000)))
  (.leaf (0,2))
  (.guard ((1000:Int)≠0)
  (.guard ((1000:Int)≠0)
  (.guard ((1000:Int)≠0)
  (.leaf (i64.wrap ((i64.wrap ((i64.wrap (Int.tdiv a0 1000))*a1))+(i64.wrap (Int.tdiv (i64.wrap ((Int.tmod a0 1000)*a1)) 1000))),0)))))))
def zza (a0 a1:Int):=(z84 a0 a1).run
def zagf:SpecT:=zn 0 (LQ.v intP (Par.q intP)) 2 [] (u2 z84) default (LQ.v intP (Par.q intP)) 2 []
theorem zam0:ze Tryz.prog 103 (zagf).spec :=
 sK (A:=⟨[],[],[],[[0,1],[0,1,16],[4,5],[4,5]],[]⟩) zbi4 fM Tryz.func103 (c:=(fb Tryz.f103)) (by kernel_rfl) (Lc:=0) trivial _ _ 2 _ _ _ _ _ _ [] (by rintro ⟨a0,a1⟩;kernel_rfl)
end
