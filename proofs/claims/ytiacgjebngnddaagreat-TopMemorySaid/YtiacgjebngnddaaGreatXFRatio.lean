/-
  The functions, each by its tree.
-/
import Derived.Test.YtiacgjebngnddaaGreatXAbC
import Derived.Test.YtiacgjebngnddaaGreatXFacts
namespace Go.Proofs.YtiacgjebngnddaaGreat.Ab
open Go Go.RowKit
open Go.IntKind (i64 u64)
set_option maxRecDepth 100000
set_option linter.unusedVariables false
set_option linter.unusedSimpArgs false
noncomputable section
noncomputable abbrev fb (f:Func):Code:=f.body.getD .skip
noncomputable def zyN:EnvT:=⟨Tryz.prog,zad [],false⟩
theorem zhN:zyN.Ok:=zf trivial
theorem fM:Tryz.prog.follows .mixedOrders=true:=Facts.mix
def zzl (a0:Int): Tr (Bool) :=
 (.leaf ((decide (a0≥0))&&(decide (a0≤1125899906842624))))
def zae (a0:Int):=(zzl a0).run
def zjn:SpecT:=zu 0 (Par.q intP) 1 [] zzl default (Par.q boolP) 1 []
theorem zi6:zg Tryz.prog 89 (zjn).spec :=
 sK (A:=⟨[],[],[],[[0],[2]],[]⟩) zhN fM Tryz.func89 (c:=(fb Tryz.f89)) (by kernel_rfl) (Lc:=0) trivial _ _ 2 _ _ _ _ _ _ [] (by rintro a0;kernel_rfl)
def zk2 (a0 a1:Int): Tr (Int×Int) :=
 (.guard ((0:Int)≤32)
 (.guard ((0:Int)≤32)
 (.guard ((0:Int)≤32)
 (.guard ((0:Int)≤32)
 (.guard ((0:Int)≤32)
 (.leaf (u64.wrap ((u64.wrap ((u64.wrap ((Int.fdiv a0 (2 ^ 32))*(Int.fdiv a1 (2 ^ 32))))+(Int.fdiv (u64.wrap ((u64.wrap ((Int.fdiv a0 (2 ^ 32))*(u64.wrap (((BitVec.ofInt 64 a1 &&& BitVec.ofInt 64 4294967295).toNat:Nat):Int))))+(Int.fdiv (u64.wrap ((u64.wrap (((BitVec.ofInt 64 a0 &&& BitVec.ofInt 64 4294967295).toNat:Nat):Int))*(u64.wrap (((BitVec.ofInt 64 a1 &&& BitVec.ofInt 64 4294967295).toNat:Nat):Int)))) (2 ^ 32)))) (2 ^ 32))))+(Int.fdiv (u64.wrap ((u64.wrap (((BitVec.ofInt 64 (u64.wrap ((u64.wrap ((Int.fdiv a0 (2 ^ 32))*(u64.wrap (((BitVec.ofInt 64 a1 &&& BitVec.ofInt 64 4294967295).toNat:Nat):Int))))+(Int.fdiv (u64.wrap ((u64.wrap (((BitVec.ofInt 64 a0 &&& BitVec.ofInt 64 4294967295).toNat:Nat):Int))*(u64.wrap (((BitVec.ofInt 64 a1 &&& BitVec.ofInt 64 4294967295).toNat:Nat):Int)))) (2 ^ 32)))) &&& BitVec.ofInt 64 4294967295).toNat:Nat):Int))+(u64.wrap ((u64.wrap (((BitVec.ofInt 64 a0 &&& BitVec.ofInt 64 4294967295).toNat:Nat):Int))*(Int.fdiv a1 (2 ^ 32)))))) (2 ^ 32))),u64.wrap (a0*a1))))))))
def zjy (a0 a1:Int):=(zk2 a0 a1).run
def zrc:SpecT:=zu 0 (LQ.seq (Par.q (kP .u64)) (Par.q (kP .u64))) 2 [] (u2 zk2) default (LQ.seq (Par.q (kP .u64)) (Par.q (kP .u64))) 2 []
theorem zx7:zg Tryz.prog 93 (zrc).spec :=
 sK (A:=⟨[],[],[],[[0,1],[0,1,6],[0,1,6,7],[0,1,6,7,8],[0,1,6,7,8,9],[0,1,6,7,8,9,10],[0,1,6,7,9,11],[0,1,6,7,9,11,12],[0,1,6,7,9,12,13],[0,1,7,9,12,13],[0,1,4],[4,5]],[]⟩) zhN fM Tryz.func93 (c:=(fb Tryz.f93)) (by kernel_rfl) (Lc:=0) trivial _ _ 2 _ _ _ _ _ _ [] (by rintro ⟨a0,a1⟩;kernel_rfl)
def zk3 (a0:Int): Tr (Int) :=
 (.ite (decide (a0≥4294967296))
  (.guard ((0:Int)≤32)
  (.ite (decide ((Int.fdiv a0 (2 ^ 32))≥65536))
   (.guard ((0:Int)≤16)
   (.ite (decide ((Int.fdiv (Int.fdiv a0 (2 ^ 32)) (2 ^ 16))≥256))
    (.guard ((0:Int)≤8)
    (.guard ((0:Int)≤(IntKind.u8.wrap (Int.fdiv (Int.fdiv (Int.fdiv a0 (2 ^ 32)) (2 ^ 16)) (2 ^ 8)))∧(IntKind.u8.wrap (Int.fdiv (Int.fdiv (Int.fdiv a0 (2 ^ 32)) (2 ^ 16)) (2 ^ 8))) < ((tabB.size:Nat):Int))
    (.leaf (i64.wrap (56+(i64.wrap (((tabB.data.toList.getD (IntKind.u8.wrap (Int.fdiv (Int.fdiv (Int.fdiv a0 (2 ^ 32)) (2 ^ 16)) (2 ^ 8))).toNat 0).toNat:Nat):Int)))))))
    (.guard ((0:Int)≤(IntKind.u8.wrap (Int.fdiv (Int.fdiv a0 (2 ^ 32)) (2 ^ 16)))∧(IntKind.u8.wrap (Int.fdiv (Int.fdiv a0 (2 ^ 32)) (2 ^ 16))) < ((tabB.size:Nat):Int))
    (.leaf (i64.wrap (48+(i64.wrap (((tabB.data.toList.getD (IntKind.u8.wrap (Int.fdiv (Int.fdiv a0 (2 ^ 32)) (2 ^ 16))).toNat 0).toNat:Nat):Int))))))))
   (.ite (decide ((Int.fdiv a0 (2 ^ 32))≥256))
    (.guard ((0:Int)≤8)
    (.guard ((0:Int)≤(IntKind.u8.wrap (Int.fdiv (Int.fdiv a0 (2 ^ 32)) (2 ^ 8)))∧(IntKind.u8.wrap (Int.fdiv (Int.fdiv a0 (2 ^ 32)) (2 ^ 8))) < ((tabB.size:Nat):Int))
    (.leaf (i64.wrap (40+(i64.wrap (((tabB.data.toList.getD (IntKind.u8.wrap (Int.fdiv (Int.fdiv a0 (2 ^ 32)) (2 ^ 8))).toNat 0).toNat:Nat):Int)))))))
    (.guard ((0:Int)≤(IntKind.u8.wrap (Int.fdiv a0 (2 ^ 32)))∧(IntKind.u8.wrap (Int.fdiv a0 (2 ^ 32))) < ((tabB.size:Nat):Int))
    (.leaf (i64.wrap (32+(i64.wrap (((tabB.data.toList.getD (IntKind.u8.wrap (Int.fdiv a0 (2 ^ 32))).toNat 0).toNat:Nat):Int)))))))))
  (.ite (decide (a0≥65536))
   (.guard ((0:Int)≤16)
   (.ite (decide ((Int.fdiv a0 (2 ^ 16))≥256))
    (.guard ((0:Int)≤8)
    (.guard ((0:Int)≤(IntKind.u8.wrap (Int.fdiv (Int.fdiv a0 (2 ^ 16)) (2 ^ 8)))∧(IntKind.u8.wrap (Int.fdiv (Int.fdiv a0 (2 ^ 16)) (2 ^ 8))) < ((tabB.size:Nat):Int))
    (.leaf (i64.wrap (24+(i64.wrap (((tabB.data.toList.getD (IntKind.u8.wrap (Int.fdiv (Int.fdiv a0 (2 ^ 16)) (2 ^ 8))).toNat 0).toNat:Nat):Int)))))))
    (.guard ((0:Int)≤(IntKind.u8.wrap (Int.fdiv a0 (2 ^ 16)))∧(IntKind.u8.wrap (Int.fdiv a0 (2 ^ 16))) < ((tabB.size:Nat):Int))
    (.leaf (i64.wrap (16+(i64.wrap (((tabB.data.toList.getD (IntKind.u8.wrap (Int.fdiv a0 (2 ^ 16))).toNat 0).toNat:Nat):Int))))))))
   (.ite (decide (a0≥256))
    (.guard ((0:Int)≤8)
    (.guard ((0:Int)≤(IntKind.u8.wrap (Int.fdiv a0 (2 ^ 8)))∧(IntKind.u8.wrap (Int.fdiv a0 (2 ^ 8))) < ((tabB.size:Nat):Int))
    (.leaf (i64.wrap (8+(i64.wrap (((tabB.data.toList.getD (IntKind.u8.wrap (Int.fdiv a0 (2 ^ 8))).toNat 0).toNat:Nat):Int)))))))
    (.guard ((0:Int)≤(IntKind.u8.wrap a0)∧(IntKind.u8.wrap a0) < ((tabB.size:Nat):Int))
    (.leaf (i64.wrap (0+(i64.wrap (((tabB.data.toList.getD (IntKind.u8.wrap a0).toNat 0).toNat:Nat):Int)))))))))
def zjz (a0:Int):=(zk3 a0).run
def zrd:SpecT:=zu 0 (Par.q (kP .u64)) 1 [] zk3 default (Par.q intP) 1 []
theorem zx8:zg Tryz.prog 139 (zrd).spec :=
 sK (A:=⟨[],[],[],[[0,2],[0,2,4],[0],[0,2],[0,2,8],[0,2],[0,2],[0,2,14],[0,2],[0,2],[2]],[]⟩) zhN fM Tryz.func139 (c:=(fb Tryz.f139)) (by kernel_rfl) (Lc:=0) trivial _ _ 2 _ _ _ _ _ _ [] (by rintro a0;kernel_rfl)
noncomputable def zy3:EnvT:=⟨Tryz.prog,zad [(139,zrd)],false⟩
theorem zh3:(zy3).Ok:=zf ⟨zx8,trivial⟩
def zd2 (a0:Int): Tr (Int) :=
 (.bind (zjz a0) fun v1 =>
 (.leaf (i64.wrap (64 - v1))))
def zdq (a0:Int):=(zd2 a0).run
def zhx:SpecT:=zu 0 (Par.q (kP .u64)) 1 [] zd2 default (Par.q intP) 1 []
theorem zoa:zg Tryz.prog 124 (zhx).spec :=
 sK (A:=⟨[],[],[],[[0],[2]],[]⟩) zh3 fM Tryz.func124 (c:=(fb Tryz.f124)) (by kernel_rfl) (Lc:=0) trivial _ _ 2 _ _ _ _ _ _ [] (by rintro a0;kernel_rfl)
def zv4:List (List Nat):=[[0,1,2],[0,1,2,20],[0,1,2],[0,1,2,24],[0,1,2],[0,1,2,27],[6,7],[0,1,2,8],[0,1,2,8],[0,1,2,8,9],[0,1,2,8,9,10],[1,2,8,9,10,11],[2,8,9,10,11,12],[2,8,9,10,11,12,13],[2,8,9,10,11,13,14],[2,8,9,10,11,13,14,15],[2,8,9,10,11,13,14,15,16],[2,8,9,10,11,13,14,15,16,78],[2,8,9,10,11,13,14,15,16],[2,8,9,10,11,13,14,15,16],[2,8,9,10,11,13,14,15,16,85],[2,8,9,10,14,15,17],[2,8,9,10,14,15,17,18],[2,8,9,10,14,15,16,17,18],[2,8,9,10,14,15,16,17,18,113],[2,8,9,10,14,15,16,17,18],[2,8,9,10,14,15,16,17,18],[2,8,9,10,14,15,16,17,18,120],[6,7]]
noncomputable def zy4:EnvT:=⟨Tryz.prog,zad [(124,zhx)],false⟩
theorem zh4:(zy4).Ok:=zf ⟨zoa,trivial⟩
def zbz (x0 x1 x2 x3 x4 x5 x6 x7 x8:Int): Tr ((Int×Int×Int×Int×Int×Int×Int×Int×Int)⊕(Int×Int×Int×Int×Int×Int×Int×Int)) :=
 (.ite ((decide (x7≥4294967296))||(decide ((u64.wrap (x7*x3)) > (u64.wrap ((u64.wrap (4294967296*x8))+x5)))))
  (.ite (decide ((u64.wrap (x8+x2))≥4294967296))
   (.leaf (.inr (x0,x1,x2,x3,x4,x5,x6,u64.wrap (x7 - 1))))
   (.leaf (.inl (x0,x1,x2,x3,x4,x5,x6,u64.wrap (x7 - 1),u64.wrap (x8+x2)))))
  (.leaf (.inr (x0,x1,x2,x3,x4,x5,x6,x7))))
def zcg (x0 x1 x2 x3 x4 x5 x6 x7 x8:Int):=zcv (fun s:Int×Int×Int×Int×Int×Int×Int×Int×Int=>(zbz s.1 s.2.1 s.2.2.1 s.2.2.2.1 s.2.2.2.2.1 s.2.2.2.2.2.1 s.2.2.2.2.2.2.1 s.2.2.2.2.2.2.2.1 s.2.2.2.2.2.2.2.2).run) (x0,x1,x2,x3,x4,x5,x6,x7,x8)
def za4a:Ann:=⟨[],[],[],zv4,[]⟩
def zq4a:=EndD.mk (LQ.seq (Par.q (kP .u64)) (LQ.seq (Par.q (kP .u64)) (LQ.seq (Par.q (kP .u64)) (LQ.seq (Par.q (kP .u64)) (LQ.seq (Par.q (kP .u64)) (LQ.seq (Par.q (kP .u64)) (LQ.seq (Par.q (kP .u64)) (LQ.seq (Par.q (kP .u64)) (Par.q (kP .u64)))))))))) ⟨[2,8,9,10,11,13,14,15,16],[]⟩ []
def zas6:=EndD.mk (LQ.seq (Par.q (kP .u64)) (LQ.seq (Par.q (kP .u64)) (LQ.seq (Par.q (kP .u64)) (LQ.seq (Par.q (kP .u64)) (LQ.seq (Par.q (kP .u64)) (LQ.seq (Par.q (kP .u64)) (LQ.seq (Par.q (kP .u64)) (Par.q (kP .u64))))))))) ⟨[2,8,9,10,11,13,14,15],[]⟩ []
def zl4a:St→Option LR:=L1 135 2 0 zq4a (.exit 0) zas6 (u9 zbz)
def zs4a:=sub (fb Tryz.f94) [0,0,1,1,1,1,1,1,1,1,1,1,1,1,1,1]
theorem zk4a:zl (zy4).env 0 zs4a zl4a :=
 zd1 (A:=za4a) zh4 fM trivial (k:=za5 zs4a) (by kernel_rfl) rfl (by rintro ⟨x0,x1,x2,x3,x4,x5,x6,x7,x8⟩;kernel_rfl)
def zb0 (x0 x1 x2 x3 x4 x5 x6 x7 x8:Int): Tr ((Int×Int×Int×Int×Int×Int×Int×Int×Int)⊕(Int×Int×Int×Int×Int×Int)) :=
 (.ite ((decide (x8≥4294967296))||(decide ((u64.wrap (x8*x3)) > (u64.wrap ((u64.wrap (4294967296*x6))+x4)))))
  (.ite (decide ((u64.wrap (x6+x2))≥4294967296))
   (.leaf (.inr (x0,x1,x4,x5,x7,u64.wrap (x8 - 1))))
   (.leaf (.inl (x0,x1,x2,x3,x4,x5,u64.wrap (x6+x2),x7,u64.wrap (x8 - 1)))))
  (.leaf (.inr (x0,x1,x4,x5,x7,x8))))
def zch (x0 x1 x2 x3 x4 x5 x6 x7 x8:Int):=zcv (fun s:Int×Int×Int×Int×Int×Int×Int×Int×Int=>(zb0 s.1 s.2.1 s.2.2.1 s.2.2.2.1 s.2.2.2.2.1 s.2.2.2.2.2.1 s.2.2.2.2.2.2.1 s.2.2.2.2.2.2.2.1 s.2.2.2.2.2.2.2.2).run) (x0,x1,x2,x3,x4,x5,x6,x7,x8)
def za4b:Ann:=⟨[],[],[],zv4,[]⟩
def zq4b:=EndD.mk (LQ.seq (Par.q (kP .u64)) (LQ.seq (Par.q (kP .u64)) (LQ.seq (Par.q (kP .u64)) (LQ.seq (Par.q (kP .u64)) (LQ.seq (Par.q (kP .u64)) (LQ.seq (Par.q (kP .u64)) (LQ.seq (Par.q (kP .u64)) (LQ.seq (Par.q (kP .u64)) (Par.q (kP .u64)))))))))) ⟨[2,8,9,10,14,15,16,17,18],[]⟩ []
def zas7:=EndD.mk (LQ.seq (Par.q (kP .u64)) (LQ.seq (Par.q (kP .u64)) (LQ.seq (Par.q (kP .u64)) (LQ.seq (Par.q (kP .u64)) (LQ.seq (Par.q (kP .u64)) (Par.q (kP .u64))))))) ⟨[2,8,14,15,17,18],[]⟩ []
def zl4b:St→Option LR:=L1 135 2 0 zq4b (.exit 2) zas7 (u9 zb0)
def zs4b:=sub (fb Tryz.f94) [0,0,1,1,1,1,1,1,1,1,1,1,1,1,1,1,1,1,1,1]
theorem zk4b:zl (zy4).env 0 zs4b zl4b :=
 zd1 (A:=za4b) zh4 fM trivial (k:=za5 zs4b) (by kernel_rfl) rfl (by rintro ⟨x0,x1,x2,x3,x4,x5,x6,x7,x8⟩;kernel_rfl)
def zk4 (a0 a1 a2:Int): Tr (Int×Int) :=
 (.ite (a2==0)
  .fail
  (.ite (decide (a2≤a0))
   .fail
   (.ite (a0==0)
    (.guard (a2≠0)
    (.guard (a2≠0)
    (.leaf (u64.wrap (Int.tdiv a1 a2),Int.tmod a1 a2))))
    (.bind (zdq a2) fun v1 =>
    (.guard ((0:Int)≤(u64.wrap v1))
    (.guard ((0:Int)≤32)
    (.guard ((0:Int)≤(u64.wrap v1))
    (.guard ((0:Int)≤(u64.wrap (64 - (u64.wrap v1))))
    (.guard ((0:Int)≤(u64.wrap v1))
    (.guard ((0:Int)≤32)
    (.guard ((Int.fdiv (u64.wrap (a2*2 ^ (min (u64.wrap v1).toNat 64))) (2 ^ 32))≠0)
    (.bind (zcg (u64.wrap (a2*2 ^ (min (u64.wrap v1).toNat 64))) (u64.wrap v1) (Int.fdiv (u64.wrap (a2*2 ^ (min (u64.wrap v1).toNat 64))) (2 ^ 32)) (u64.wrap (((BitVec.ofInt 64 (u64.wrap (a2*2 ^ (min (u64.wrap v1).toNat 64))) &&& BitVec.ofInt 64 4294967295).toNat:Nat):Int)) (u64.wrap (((BitVec.ofInt 64 (u64.wrap (a0*2 ^ (min (u64.wrap v1).toNat 64))) ||| BitVec.ofInt 64 (Int.fdiv a1 (2 ^ (min (u64.wrap (64 - (u64.wrap v1))).toNat 64)))).toNat:Nat):Int)) (Int.fdiv (u64.wrap (a1*2 ^ (min (u64.wrap v1).toNat 64))) (2 ^ 32)) (u64.wrap (((BitVec.ofInt 64 (u64.wrap (a1*2 ^ (min (u64.wrap v1).toNat 64))) &&& BitVec.ofInt 64 4294967295).toNat:Nat):Int)) (u64.wrap (Int.tdiv (u64.wrap (((BitVec.ofInt 64 (u64.wrap (a0*2 ^ (min (u64.wrap v1).toNat 64))) ||| BitVec.ofInt 64 (Int.fdiv a1 (2 ^ (min (u64.wrap (64 - (u64.wrap v1))).toNat 64)))).toNat:Nat):Int)) (Int.fdiv (u64.wrap (a2*2 ^ (min (u64.wrap v1).toNat 64))) (2 ^ 32)))) (u64.wrap ((u64.wrap (((BitVec.ofInt 64 (u64.wrap (a0*2 ^ (min (u64.wrap v1).toNat 64))) ||| BitVec.ofInt 64 (Int.fdiv a1 (2 ^ (min (u64.wrap (64 - (u64.wrap v1))).toNat 64)))).toNat:Nat):Int)) - (u64.wrap ((u64.wrap (Int.tdiv (u64.wrap (((BitVec.ofInt 64 (u64.wrap (a0*2 ^ (min (u64.wrap v1).toNat 64))) ||| BitVec.ofInt 64 (Int.fdiv a1 (2 ^ (min (u64.wrap (64 - (u64.wrap v1))).toNat 64)))).toNat:Nat):Int)) (Int.fdiv (u64.wrap (a2*2 ^ (min (u64.wrap v1).toNat 64))) (2 ^ 32))))*(Int.fdiv (u64.wrap (a2*2 ^ (min (u64.wrap v1).toNat 64))) (2 ^ 32))))))) fun v2 =>
    (.guard (v2.2.2.1≠0)
    (.bind (zch v2.1 v2.2.1 v2.2.2.1 v2.2.2.2.1 v2.2.2.2.2.2.2.1 v2.2.2.2.2.2.2.2 (u64.wrap ((u64.wrap ((u64.wrap ((u64.wrap (v2.2.2.2.2.1*4294967296))+v2.2.2.2.2.2.1)) - (u64.wrap (v2.2.2.2.2.2.2.2*v2.1)))) - (u64.wrap ((u64.wrap (Int.tdiv (u64.wrap ((u64.wrap ((u64.wrap (v2.2.2.2.2.1*4294967296))+v2.2.2.2.2.2.1)) - (u64.wrap (v2.2.2.2.2.2.2.2*v2.1)))) v2.2.2.1))*v2.2.2.1)))) (u64.wrap ((u64.wrap ((u64.wrap (v2.2.2.2.2.1*4294967296))+v2.2.2.2.2.2.1)) - (u64.wrap (v2.2.2.2.2.2.2.2*v2.1)))) (u64.wrap (Int.tdiv (u64.wrap ((u64.wrap ((u64.wrap (v2.2.2.2.2.1*4294967296))+v2.2.2.2.2.2.1)) - (u64.wrap (v2.2.2.2.2.2.2.2*v2.1)))) v2.2.2.1))) fun v3 =>
    (.guard ((0:Int)≤v3.2.1)
    (.leaf (u64.wrap ((u64.wrap (v3.2.2.2.1*4294967296))+v3.2.2.2.2.2),Int.fdiv (u64.wrap ((u64.wrap ((u64.wrap (v3.2.2.2.2.1*4294967296))+v3.2.2.1)) - (u64.wrap (v3.2.2.2.2.2*v3.1)))) (2 ^ (min v3.2.1.toNat 64)))))))))))))))))))
def zj0 (a0 a1 a2:Int):=(zk4 a0 a1 a2).run
def zre:SpecT:=zu 0 (LQ.seq (Par.q (kP .u64)) (LQ.seq (Par.q (kP .u64)) (Par.q (kP .u64)))) 3 [] (u3 zk4) default (LQ.seq (Par.q (kP .u64)) (Par.q (kP .u64))) 2 []
theorem zx9:zg Tryz.prog 94 (zre).spec :=
 sK (A:=⟨[([0,0,1,1,1,1,1,1,1,1,1,1,1,1,1,1],zl4a),([0,0,1,1,1,1,1,1,1,1,1,1,1,1,1,1,1,1,1,1],zl4b)],[],[],zv4,[]⟩) zh4 fM Tryz.func94 (c:=(fb Tryz.f94)) (by kernel_rfl) (Lc:=0) ⟨zk4a,zk4b,trivial⟩ _ _ 2 _ _ _ _ _ _ [] (by rintro ⟨a0,a1,a2⟩;kernel_rfl)
noncomputable def zy5:EnvT:=⟨Tryz.prog,zad [(93,zrc),(94,zre)],false⟩
theorem zh5:(zy5).Ok:=zf ⟨zx7,zx9,trivial⟩
def zqa (a0 a1 a2:Int): Tr (Int×Int) :=
 (.ite (((decide (a0 < 0))||(decide (a1 < 0)))||(decide (a2 < 1)))
  (.leaf (0,2))
  (.bind (zjy (u64.wrap a0) (u64.wrap a1)) fun v1 =>
  (.ite (decide (v1.1≥(u64.wrap a2)))
   (.leaf (0,2))
   (.bind (zj0 v1.1 v1.2 (u64.wrap a2)) fun v2 =>
   (.ite (decide (v2.1 > 1125899906842624))
    (.leaf (0,2))
    (.leaf (i64.wrap v2.1,0)))))))
def zab (a0 a1 a2:Int):=(zqa a0 a1 a2).run
def zly:SpecT:=zu 0 (LQ.v intP (LQ.v intP (Par.q intP))) 3 [] (u3 zqa) default (LQ.v intP (Par.q intP)) 2 []
theorem zob:zg Tryz.prog 61 (zly).spec :=
 sK (A:=⟨[],[],[],[[0,1,2],[0,1,2,21],[6,7],[2,8,9],[2,8,9,33],[6,7],[10],[10,43],[6,7],[6,7]],[]⟩) zh5 fM Tryz.func61 (c:=(fb Tryz.f61)) (by kernel_rfl) (Lc:=0) trivial _ _ 2 _ _ _ _ _ _ [] (by rintro ⟨a0,a1,a2⟩;kernel_rfl)
noncomputable def zy6:EnvT:=⟨Tryz.prog,zad [(89,zjn),(61,zly)],false⟩
theorem zh6:(zy6).Ok:=zf ⟨zi6,zob,trivial⟩
def ztq (a0 a1:Int): Tr (Int×Int) :=
 (.bind (zae a0) fun v1 =>
 (.ite (((!v1)||(decide (a1 < 0)))||(decide (a1 > 1000)))
  (.leaf (0,2))
  (.bind (zab a0 a1 1000) fun v2 =>
  (.leaf (v2.1,v2.2)))))
def znp (a0 a1:Int):=(ztq a0 a1).run
def z0j:SpecT:=zu 0 (LQ.v intP (Par.q intP)) 2 [] (u2 ztq) default (LQ.v intP (Par.q intP)) 2 []
theorem z66:zg Tryz.prog 65 (z0j).spec :=
 sK (A:=⟨[],[],[],[[0,1],[0,1,16],[4,5],[4,5]],[]⟩) zh6 fM Tryz.func65 (c:=(fb Tryz.f65)) (by kernel_rfl) (Lc:=0) trivial _ _ 2 _ _ _ _ _ _ [] (by rintro ⟨a0,a1⟩;kernel_rfl)
end
