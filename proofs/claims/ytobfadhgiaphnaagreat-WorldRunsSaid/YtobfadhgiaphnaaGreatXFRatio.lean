/-
  The functions, each by its tree.
-/
import Derived.Test.YtobfadhgiaphnaaGreatXAbFun
import Derived.Test.YtobfadhgiaphnaaGreatXAbStructs
import Derived.Test.YtobfadhgiaphnaaGreatXFacts
namespace Go.Proofs.YtobfadhgiaphnaaGreat.Ab
open Go Go.RowKit
set_option maxRecDepth 100000
set_option linter.unusedVariables false
set_option linter.unusedSimpArgs false
noncomputable section
noncomputable abbrev fb (f:Func):Code:=f.body.getD .skip
noncomputable def zyN:EnvT:=⟨Tryz.prog,zw []⟩
theorem zhN:zyN.Ok:=zd trivial
theorem fM:Tryz.prog.follows .mixedOrders=true:=Facts.mix
def z6z (a0:Int): Tr (Bool) :=
 (.leaf ((decide (a0≥0))&&(decide (a0≤1125899906842624))))
def zai (a0:Int):=(z6z a0).run
def zl9:SpecT:=zm 0 (Par.q intP) 1 [] z6z default (Par.q boolP) 1 []
theorem zlo:ze Tryz.prog 148 (zl9).spec :=
 sK (A:=⟨[],[],[],[[0],[2]],[]⟩) zhN fM Tryz.func148 (c:=(fb Tryz.f148)) (by kernel_rfl) (Lc:=0) trivial _ _ 2 _ _ _ _ _ _ [] (by rintro a0;kernel_rfl)
def zn6 (a0 a1:Int): Tr (Int×Int) :=
 (.guard ((0:Int)≤32)
 (.guard ((0:Int)≤32)
 (.guard ((0:Int)≤32)
 (.guard ((0:Int)≤32)
 (.guard ((0:Int)≤32)
 (.leaf (IntKind.u64.wrap ((IntKind.u64.wrap ((IntKind.u64.wrap ((Int.fdiv a0 (2 ^ 32))*(Int.fdiv a1 (2 ^ 32))))+(Int.fdiv (IntKind.u64.wrap ((IntKind.u64.wrap ((Int.fdiv a0 (2 ^ 32))*(IntKind.u64.wrap (((BitVec.ofInt 64 a1 &&& BitVec.ofInt 64 4294967295).toNat:Nat):Int))))+(Int.fdiv (IntKind.u64.wrap ((IntKind.u64.wrap (((BitVec.ofInt 64 a0 &&& BitVec.ofInt 64 4294967295).toNat:Nat):Int))*(IntKind.u64.wrap (((BitVec.ofInt 64 a1 &&& BitVec.ofInt 64 4294967295).toNat:Nat):Int)))) (2 ^ 32)))) (2 ^ 32))))+(Int.fdiv (IntKind.u64.wrap ((IntKind.u64.wrap (((BitVec.ofInt 64 (IntKind.u64.wrap ((IntKind.u64.wrap ((Int.fdiv a0 (2 ^ 32))*(IntKind.u64.wrap (((BitVec.ofInt 64 a1 &&& BitVec.ofInt 64 4294967295).toNat:Nat):Int))))+(Int.fdiv (IntKind.u64.wrap ((IntKind.u64.wrap (((BitVec.ofInt 64 a0 &&& BitVec.ofInt 64 4294967295).toNat:Nat):Int))*(IntKind.u64.wrap (((BitVec.ofInt 64 a1 &&& BitVec.ofInt 64 4294967295).toNat:Nat):Int)))) (2 ^ 32)))) &&& BitVec.ofInt 64 4294967295).toNat:Nat):Int))+(IntKind.u64.wrap ((IntKind.u64.wrap (((BitVec.ofInt 64 a0 &&& BitVec.ofInt 64 4294967295).toNat:Nat):Int))*(Int.fdiv a1 (2 ^ 32)))))) (2 ^ 32))),IntKind.u64.wrap (a0*a1))))))))
def zmn (a0 a1:Int):=(zn6 a0 a1).run
def zv3:SpecT:=zm 0 (LQ.seq (Par.q (kP .u64)) (Par.q (kP .u64))) 2 [] (u2 zn6) default (LQ.seq (Par.q (kP .u64)) (Par.q (kP .u64))) 2 []
theorem z48:ze Tryz.prog 153 (zv3).spec :=
 sK (A:=⟨[],[],[],[[0,1],[0,1,6],[0,1,6,7],[0,1,6,7,8],[0,1,6,7,8,9],[0,1,6,7,8,9,10],[0,1,6,7,9,11],[0,1,6,7,9,11,12],[0,1,6,7,9,12,13],[0,1,7,9,12,13],[0,1,4],[4,5]],[]⟩) zhN fM Tryz.func153 (c:=(fb Tryz.f153)) (by kernel_rfl) (Lc:=0) trivial _ _ 2 _ _ _ _ _ _ [] (by rintro ⟨a0,a1⟩;kernel_rfl)
def zn7 (a0:Int): Tr (Int) :=
 (.ite (decide (a0≥4294967296))
  (.guard ((0:Int)≤32)
  (.ite (decide ((Int.fdiv a0 (2 ^ 32))≥65536))
   (.guard ((0:Int)≤16)
   (.ite (decide ((Int.fdiv (Int.fdiv a0 (2 ^ 32)) (2 ^ 16))≥256))
    (.guard ((0:Int)≤8)
    (.guard ((0:Int)≤(IntKind.u8.wrap (Int.fdiv (Int.fdiv (Int.fdiv a0 (2 ^ 32)) (2 ^ 16)) (2 ^ 8)))∧(IntKind.u8.wrap (Int.fdiv (Int.fdiv (Int.fdiv a0 (2 ^ 32)) (2 ^ 16)) (2 ^ 8))) < ((tabB.size:Nat):Int))
    (.leaf (IntKind.i64.wrap (56+(IntKind.i64.wrap (((tabB.data.toList.getD (IntKind.u8.wrap (Int.fdiv (Int.fdiv (Int.fdiv a0 (2 ^ 32)) (2 ^ 16)) (2 ^ 8))).toNat 0).toNat:Nat):Int)))))))
    (.guard ((0:Int)≤(IntKind.u8.wrap (Int.fdiv (Int.fdiv a0 (2 ^ 32)) (2 ^ 16)))∧(IntKind.u8.wrap (Int.fdiv (Int.fdiv a0 (2 ^ 32)) (2 ^ 16))) < ((tabB.size:Nat):Int))
    (.leaf (IntKind.i64.wrap (48+(IntKind.i64.wrap (((tabB.data.toList.getD (IntKind.u8.wrap (Int.fdiv (Int.fdiv a0 (2 ^ 32)) (2 ^ 16))).toNat 0).toNat:Nat):Int))))))))
   (.ite (decide ((Int.fdiv a0 (2 ^ 32))≥256))
    (.guard ((0:Int)≤8)
    (.guard ((0:Int)≤(IntKind.u8.wrap (Int.fdiv (Int.fdiv a0 (2 ^ 32)) (2 ^ 8)))∧(IntKind.u8.wrap (Int.fdiv (Int.fdiv a0 (2 ^ 32)) (2 ^ 8))) < ((tabB.size:Nat):Int))
    (.leaf (IntKind.i64.wrap (40+(IntKind.i64.wrap (((tabB.data.toList.getD (IntKind.u8.wrap (Int.fdiv (Int.fdiv a0 (2 ^ 32)) (2 ^ 8))).toNat 0).toNat:Nat):Int)))))))
    (.guard ((0:Int)≤(IntKind.u8.wrap (Int.fdiv a0 (2 ^ 32)))∧(IntKind.u8.wrap (Int.fdiv a0 (2 ^ 32))) < ((tabB.size:Nat):Int))
    (.leaf (IntKind.i64.wrap (32+(IntKind.i64.wrap (((tabB.data.toList.getD (IntKind.u8.wrap (Int.fdiv a0 (2 ^ 32))).toNat 0).toNat:Nat):Int)))))))))
  (.ite (decide (a0≥65536))
   (.guard ((0:Int)≤16)
   (.ite (decide ((Int.fdiv a0 (2 ^ 16))≥256))
    (.guard ((0:Int)≤8)
    (.guard ((0:Int)≤(IntKind.u8.wrap (Int.fdiv (Int.fdiv a0 (2 ^ 16)) (2 ^ 8)))∧(IntKind.u8.wrap (Int.fdiv (Int.fdiv a0 (2 ^ 16)) (2 ^ 8))) < ((tabB.size:Nat):Int))
    (.leaf (IntKind.i64.wrap (24+(IntKind.i64.wrap (((tabB.data.toList.getD (IntKind.u8.wrap (Int.fdiv (Int.fdiv a0 (2 ^ 16)) (2 ^ 8))).toNat 0).toNat:Nat):Int)))))))
    (.guard ((0:Int)≤(IntKind.u8.wrap (Int.fdiv a0 (2 ^ 16)))∧(IntKind.u8.wrap (Int.fdiv a0 (2 ^ 16))) < ((tabB.size:Nat):Int))
    (.leaf (IntKind.i64.wrap (16+(IntKind.i64.wrap (((tabB.data.toList.getD (IntKind.u8.wrap (Int.fdiv a0 (2 ^ 16))).toNat 0).toNat:Nat):Int))))))))
   (.ite (decide (a0≥256))
    (.guard ((0:Int)≤8)
    (.guard ((0:Int)≤(IntKind.u8.wrap (Int.fdiv a0 (2 ^ 8)))∧(IntKind.u8.wrap (Int.fdiv a0 (2 ^ 8))) < ((tabB.size:Nat):Int))
    (.leaf (IntKind.i64.wrap (8+(IntKind.i64.wrap (((tabB.data.toList.getD (IntKind.u8.wrap (Int.fdiv a0 (2 ^ 8))).toNat 0).toNat:Nat):Int)))))))
    (.guard ((0:Int)≤(IntKind.u8.wrap a0)∧(IntKind.u8.wrap a0) < ((tabB.size:Nat):Int))
    (.leaf (IntKind.i64.wrap (0+(IntKind.i64.wrap (((tabB.data.toList.getD (IntKind.u8.wrap a0).toNat 0).toNat:Nat):Int)))))))))
def zmo (a0:Int):=(zn7 a0).run
def zv5:SpecT:=zm 0 (Par.q (kP .u64)) 1 [] zn7 default (Par.q intP) 1 []
theorem z49:ze Tryz.prog 202 (zv5).spec :=
 sK (A:=⟨[],[],[],[[0,2],[0,2,4],[0],[0,2],[0,2,8],[0,2],[0,2],[0,2,14],[0,2],[0,2],[2]],[]⟩) zhN fM Tryz.func202 (c:=(fb Tryz.f202)) (by kernel_rfl) (Lc:=0) trivial _ _ 2 _ _ _ _ _ _ [] (by rintro a0;kernel_rfl)
noncomputable def zy3:EnvT:=⟨Tryz.prog,zw [(202,zv5)]⟩
theorem zh3:(zy3).Ok:=zd ⟨z49,trivial⟩
def ze3 (a0:Int): Tr (Int) :=
 (.bind (zmo a0) fun v1 =>
 (.leaf (IntKind.i64.wrap (64 - v1))))
def zet (a0:Int):=(ze3 a0).run
def zkb:SpecT:=zm 0 (Par.q (kP .u64)) 1 [] ze3 default (Par.q intP) 1 []
theorem zsc:ze Tryz.prog 186 (zkb).spec :=
 sK (A:=⟨[],[],[],[[0],[2]],[]⟩) zh3 fM Tryz.func186 (c:=(fb Tryz.f186)) (by kernel_rfl) (Lc:=0) trivial _ _ 2 _ _ _ _ _ _ [] (by rintro a0;kernel_rfl)
def zv4:List (List Nat):=[[0,1,2],[0,1,2,20],[0,1,2],[0,1,2,24],[0,1,2],[0,1,2,27],[6,7],[0,1,2,8],[0,1,2,8],[0,1,2,8,9],[0,1,2,8,9,10],[1,2,8,9,10,11],[2,8,9,10,11,12],[2,8,9,10,11,12,13],[2,8,9,10,11,13,14],[2,8,9,10,11,13,14,15],[2,8,9,10,11,13,14,15,16],[2,8,9,10,11,13,14,15,16,78],[2,8,9,10,11,13,14,15,16],[2,8,9,10,11,13,14,15,16],[2,8,9,10,11,13,14,15,16,85],[2,8,9,10,14,15,17],[2,8,9,10,14,15,17,18],[2,8,9,10,14,15,16,17,18],[2,8,9,10,14,15,16,17,18,113],[2,8,9,10,14,15,16,17,18],[2,8,9,10,14,15,16,17,18],[2,8,9,10,14,15,16,17,18,120],[6,7]]
noncomputable def zy4:EnvT:=⟨Tryz.prog,zw [(186,zkb)]⟩
theorem zh4:(zy4).Ok:=zd ⟨zsc,trivial⟩
def zc0 (x0 x1 x2 x3 x4 x5 x6 x7 x8:Int): Tr ((Int×Int×Int×Int×Int×Int×Int×Int×Int)⊕(Int×Int×Int×Int×Int×Int×Int×Int)) :=
 (.ite ((decide (x7≥4294967296))||(decide ((IntKind.u64.wrap (x7*x3)) > (IntKind.u64.wrap ((IntKind.u64.wrap (4294967296*x8))+x5)))))
  (.ite (decide ((IntKind.u64.wrap (x8+x2))≥4294967296))
   (.leaf (.inr (x0,x1,x2,x3,x4,x5,x6,IntKind.u64.wrap (x7 - 1))))
   (.leaf (.inl (x0,x1,x2,x3,x4,x5,x6,IntKind.u64.wrap (x7 - 1),IntKind.u64.wrap (x8+x2)))))
  (.leaf (.inr (x0,x1,x2,x3,x4,x5,x6,x7))))
def zdh (x0 x1 x2 x3 x4 x5 x6 x7 x8:Int):=zbp (fun s:Int×Int×Int×Int×Int×Int×Int×Int×Int=>(zc0 s.1 s.2.1 s.2.2.1 s.2.2.2.1 s.2.2.2.2.1 s.2.2.2.2.2.1 s.2.2.2.2.2.2.1 s.2.2.2.2.2.2.2.1 s.2.2.2.2.2.2.2.2).run) (x0,x1,x2,x3,x4,x5,x6,x7,x8)
def za4a:Ann:=⟨[],[],[],zv4,[]⟩
def zq4a:=EndD.mk (LQ.seq (Par.q (kP .u64)) (LQ.seq (Par.q (kP .u64)) (LQ.seq (Par.q (kP .u64)) (LQ.seq (Par.q (kP .u64)) (LQ.seq (Par.q (kP .u64)) (LQ.seq (Par.q (kP .u64)) (LQ.seq (Par.q (kP .u64)) (LQ.seq (Par.q (kP .u64)) (Par.q (kP .u64)))))))))) ⟨[2,8,9,10,11,13,14,15,16],[]⟩ []
def za5f:=EndD.mk (LQ.seq (Par.q (kP .u64)) (LQ.seq (Par.q (kP .u64)) (LQ.seq (Par.q (kP .u64)) (LQ.seq (Par.q (kP .u64)) (LQ.seq (Par.q (kP .u64)) (LQ.seq (Par.q (kP .u64)) (LQ.seq (Par.q (kP .u64)) (Par.q (kP .u64))))))))) ⟨[2,8,9,10,11,13,14,15],[]⟩ []
def zl4a:St→Option LR:=L1 135 2 0 zq4a (.exit 0) za5f (u9 zc0)
def zs4a:=sub (fb Tryz.f154) [0,0,1,1,1,1,1,1,1,1,1,1,1,1,1,1]
theorem zk4a:zk (zy4).env 0 zs4a zl4a :=
 zb2 (A:=za4a) zh4 fM trivial (k:=zab zs4a) (by kernel_rfl) rfl (by rintro ⟨x0,x1,x2,x3,x4,x5,x6,x7,x8⟩;kernel_rfl)
def zc1 (x0 x1 x2 x3 x4 x5 x6 x7 x8:Int): Tr ((Int×Int×Int×Int×Int×Int×Int×Int×Int)⊕(Int×Int×Int×Int×Int×Int)) :=
 (.ite ((decide (x8≥4294967296))||(decide ((IntKind.u64.wrap (x8*x3)) > (IntKind.u64.wrap ((IntKind.u64.wrap (4294967296*x6))+x4)))))
  (.ite (decide ((IntKind.u64.wrap (x6+x2))≥4294967296))
   (.leaf (.inr (x0,x1,x4,x5,x7,IntKind.u64.wrap (x8 - 1))))
   (.leaf (.inl (x0,x1,x2,x3,x4,x5,IntKind.u64.wrap (x6+x2),x7,IntKind.u64.wrap (x8 - 1)))))
  (.leaf (.inr (x0,x1,x4,x5,x7,x8))))
def zdi (x0 x1 x2 x3 x4 x5 x6 x7 x8:Int):=zbp (fun s:Int×Int×Int×Int×Int×Int×Int×Int×Int=>(zc1 s.1 s.2.1 s.2.2.1 s.2.2.2.1 s.2.2.2.2.1 s.2.2.2.2.2.1 s.2.2.2.2.2.2.1 s.2.2.2.2.2.2.2.1 s.2.2.2.2.2.2.2.2).run) (x0,x1,x2,x3,x4,x5,x6,x7,x8)
def za4b:Ann:=⟨[],[],[],zv4,[]⟩
def zq4b:=EndD.mk (LQ.seq (Par.q (kP .u64)) (LQ.seq (Par.q (kP .u64)) (LQ.seq (Par.q (kP .u64)) (LQ.seq (Par.q (kP .u64)) (LQ.seq (Par.q (kP .u64)) (LQ.seq (Par.q (kP .u64)) (LQ.seq (Par.q (kP .u64)) (LQ.seq (Par.q (kP .u64)) (Par.q (kP .u64)))))))))) ⟨[2,8,9,10,14,15,16,17,18],[]⟩ []
def za5g:=EndD.mk (LQ.seq (Par.q (kP .u64)) (LQ.seq (Par.q (kP .u64)) (LQ.seq (Par.q (kP .u64)) (LQ.seq (Par.q (kP .u64)) (LQ.seq (Par.q (kP .u64)) (Par.q (kP .u64))))))) ⟨[2,8,14,15,17,18],[]⟩ []
def zl4b:St→Option LR:=L1 135 2 0 zq4b (.exit 2) za5g (u9 zc1)
def zs4b:=sub (fb Tryz.f154) [0,0,1,1,1,1,1,1,1,1,1,1,1,1,1,1,1,1,1,1]
theorem zk4b:zk (zy4).env 0 zs4b zl4b :=
 zb2 (A:=za4b) zh4 fM trivial (k:=zab zs4b) (by kernel_rfl) rfl (by rintro ⟨x0,x1,x2,x3,x4,x5,x6,x7,x8⟩;kernel_rfl)
def zn8 (a0 a1 a2:Int): Tr (Int×Int) :=
 (.ite (a2==0)
  .fail
  (.ite (decide (a2≤a0))
   .fail
   (.ite (a0==0)
    (.guard (a2≠0)
    (.guard (a2≠0)
    (.leaf (IntKind.u64.wrap (Int.tdiv a1 a2),Int.tmod a1 a2))))
    (.bind (zet a2) fun v1 =>
    (.guard ((0:Int)≤(IntKind.u64.wrap v1))
    (.guard ((0:Int)≤32)
    (.guard ((0:Int)≤(IntKind.u64.wrap v1))
    (.guard ((0:Int)≤(IntKind.u64.wrap (64 - (IntKind.u64.wrap v1))))
    (.guard ((0:Int)≤(IntKind.u64.wrap v1))
    (.guard ((0:Int)≤32)
    (.guard ((Int.fdiv (IntKind.u64.wrap (a2*2 ^ (min (IntKind.u64.wrap v1).toNat 64))) (2 ^ 32))≠0)
    (.bind (zdh (IntKind.u64.wrap (a2*2 ^ (min (IntKind.u64.wrap v1).toNat 64))) (IntKind.u64.wrap v1) (Int.fdiv (IntKind.u64.wrap (a2*2 ^ (min (IntKind.u64.wrap v1).toNat 64))) (2 ^ 32)) (IntKind.u64.wrap (((BitVec.ofInt 64 (IntKind.u64.wrap (a2*2 ^ (min (IntKind.u64.wrap v1).toNat 64))) &&& BitVec.ofInt 64 4294967295).toNat:Nat):Int)) (IntKind.u64.wrap (((BitVec.ofInt 64 (IntKind.u64.wrap (a0*2 ^ (min (IntKind.u64.wrap v1).toNat 64))) ||| BitVec.ofInt 64 (Int.fdiv a1 (2 ^ (min (IntKind.u64.wrap (64 - (IntKind.u64.wrap v1))).toNat 64)))).toNat:Nat):Int)) (Int.fdiv (IntKind.u64.wrap (a1*2 ^ (min (IntKind.u64.wrap v1).toNat 64))) (2 ^ 32)) (IntKind.u64.wrap (((BitVec.ofInt 64 (IntKind.u64.wrap (a1*2 ^ (min (IntKind.u64.wrap v1).toNat 64))) &&& BitVec.ofInt 64 4294967295).toNat:Nat):Int)) (IntKind.u64.wrap (Int.tdiv (IntKind.u64.wrap (((BitVec.ofInt 64 (IntKind.u64.wrap (a0*2 ^ (min (IntKind.u64.wrap v1).toNat 64))) ||| BitVec.ofInt 64 (Int.fdiv a1 (2 ^ (min (IntKind.u64.wrap (64 - (IntKind.u64.wrap v1))).toNat 64)))).toNat:Nat):Int)) (Int.fdiv (IntKind.u64.wrap (a2*2 ^ (min (IntKind.u64.wrap v1).toNat 64))) (2 ^ 32)))) (IntKind.u64.wrap ((IntKind.u64.wrap (((BitVec.ofInt 64 (IntKind.u64.wrap (a0*2 ^ (min (IntKind.u64.wrap v1).toNat 64))) ||| BitVec.ofInt 64 (Int.fdiv a1 (2 ^ (min (IntKind.u64.wrap (64 - (IntKind.u64.wrap v1))).toNat 64)))).toNat:Nat):Int)) - (IntKind.u64.wrap ((IntKind.u64.wrap (Int.tdiv (IntKind.u64.wrap (((BitVec.ofInt 64 (IntKind.u64.wrap (a0*2 ^ (min (IntKind.u64.wrap v1).toNat 64))) ||| BitVec.ofInt 64 (Int.fdiv a1 (2 ^ (min (IntKind.u64.wrap (64 - (IntKind.u64.wrap v1))).toNat 64)))).toNat:Nat):Int)) (Int.fdiv (IntKind.u64.wrap (a2*2 ^ (min (IntKind.u64.wrap v1).toNat 64))) (2 ^ 32))))*(Int.fdiv (IntKind.u64.wrap (a2*2 ^ (min (IntKind.u64.wrap v1).toNat 64))) (2 ^ 32))))))) fun v2 =>
    (.guard (v2.2.2.1≠0)
    (.bind (zdi v2.1 v2.2.1 v2.2.2.1 v2.2.2.2.1 v2.2.2.2.2.2.2.1 v2.2.2.2.2.2.2.2 (IntKind.u64.wrap ((IntKind.u64.wrap ((IntKind.u64.wrap ((IntKind.u64.wrap (v2.2.2.2.2.1*4294967296))+v2.2.2.2.2.2.1)) - (IntKind.u64.wrap (v2.2.2.2.2.2.2.2*v2.1)))) - (IntKind.u64.wrap ((IntKind.u64.wrap (Int.tdiv (IntKind.u64.wrap ((IntKind.u64.wrap ((IntKind.u64.wrap (v2.2.2.2.2.1*4294967296))+v2.2.2.2.2.2.1)) - (IntKind.u64.wrap (v2.2.2.2.2.2.2.2*v2.1)))) v2.2.2.1))*v2.2.2.1)))) (IntKind.u64.wrap ((IntKind.u64.wrap ((IntKind.u64.wrap (v2.2.2.2.2.1*4294967296))+v2.2.2.2.2.2.1)) - (IntKind.u64.wrap (v2.2.2.2.2.2.2.2*v2.1)))) (IntKind.u64.wrap (Int.tdiv (IntKind.u64.wrap ((IntKind.u64.wrap ((IntKind.u64.wrap (v2.2.2.2.2.1*4294967296))+v2.2.2.2.2.2.1)) - (IntKind.u64.wrap (v2.2.2.2.2.2.2.2*v2.1)))) v2.2.2.1))) fun v3 =>
    (.guard ((0:Int)≤v3.2.1)
    (.leaf (IntKind.u64.wrap ((IntKind.u64.wrap (v3.2.2.2.1*4294967296))+v3.2.2.2.2.2),Int.fdiv (IntKind.u64.wrap ((IntKind.u64.wrap ((IntKind.u64.wrap (v3.2.2.2.2.1*4294967296))+v3.2.2.1)) - (IntKind.u64.wrap (v3.2.2.2.2.2*v3.1)))) (2 ^ (min v3.2.1.toNat 64)))))))))))))))))))
def zmp (a0 a1 a2:Int):=(zn8 a0 a1 a2).run
def zv6:SpecT:=zm 0 (LQ.seq (Par.q (kP .u64)) (LQ.seq (Par.q (kP .u64)) (Par.q (kP .u64)))) 3 [] (u3 zn8) default (LQ.seq (Par.q (kP .u64)) (Par.q (kP .u64))) 2 []
theorem z5a:ze Tryz.prog 154 (zv6).spec :=
 sK (A:=⟨[([0,0,1,1,1,1,1,1,1,1,1,1,1,1,1,1],zl4a),([0,0,1,1,1,1,1,1,1,1,1,1,1,1,1,1,1,1,1,1],zl4b)],[],[],zv4,[]⟩) zh4 fM Tryz.func154 (c:=(fb Tryz.f154)) (by kernel_rfl) (Lc:=0) ⟨zk4a,zk4b,trivial⟩ _ _ 2 _ _ _ _ _ _ [] (by rintro ⟨a0,a1,a2⟩;kernel_rfl)
noncomputable def zy5:EnvT:=⟨Tryz.prog,zw [(153,zv3),(154,zv6)]⟩
theorem zh5:(zy5).Ok:=zd ⟨z48,z5a,trivial⟩
def zut (a0 a1 a2:Int): Tr (Int×Int) :=
 (.ite (((decide (a0 < 0))||(decide (a1 < 0)))||(decide (a2 < 1)))
  (.leaf (0,2))
  (.bind (zmn (IntKind.u64.wrap a0) (IntKind.u64.wrap a1)) fun v1 =>
  (.ite (decide (v1.1≥(IntKind.u64.wrap a2)))
   (.leaf (0,2))
   (.bind (zmp v1.1 v1.2 (IntKind.u64.wrap a2)) fun v2 =>
   (.ite (decide (v2.1 > 1125899906842624))
    (.leaf (0,2))
    (.leaf (IntKind.i64.wrap v2.1,0)))))))
def zae (a0 a1 a2:Int):=(zut a0 a1 a2).run
def zo9:SpecT:=zm 0 (LQ.v intP (LQ.v intP (Par.q intP))) 3 [] (u3 zut) default (LQ.v intP (Par.q intP)) 2 []
theorem zsd:ze Tryz.prog 115 (zo9).spec :=
 sK (A:=⟨[],[],[],[[0,1,2],[0,1,2,21],[6,7],[2,8,9],[2,8,9,33],[6,7],[10],[10,43],[6,7],[6,7]],[]⟩) zh5 fM Tryz.func115 (c:=(fb Tryz.f115)) (by kernel_rfl) (Lc:=0) trivial _ _ 2 _ _ _ _ _ _ [] (by rintro ⟨a0,a1,a2⟩;kernel_rfl)
noncomputable def zy6:EnvT:=⟨Tryz.prog,zw [(148,zl9),(115,zo9)]⟩
theorem zh6:(zy6).Ok:=zd ⟨zlo,zsd,trivial⟩
def zzn (a0 a1:Int): Tr (Int×Int) :=
 (.bind (zai a0) fun v1 =>
 (.ite (((!v1)||(decide (a1 < 0)))||(decide (a1 > 1000)))
  (.leaf (0,2))
  (.bind (zae a0 a1 1000) fun v2 =>
  (.leaf (v2.1,v2.2)))))
def zrl (a0 a1:Int):=(zzn a0 a1).run
def z74:SpecT:=zm 0 (LQ.v intP (Par.q intP)) 2 [] (u2 zzn) default (LQ.v intP (Par.q intP)) 2 []
theorem zaf8:ze Tryz.prog 119 (z74).spec :=
 sK (A:=⟨[],[],[],[[0,1],[0,1,16],[4,5],[4,5]],[]⟩) zh6 fM Tryz.func119 (c:=(fb Tryz.f119)) (by kernel_rfl) (Lc:=0) trivial _ _ 2 _ _ _ _ _ _ [] (by rintro ⟨a0,a1⟩;kernel_rfl)
def zaf9 (a0:Int): Tr (Bool) :=
 (.leaf ((decide (a0≥0))&&(decide (a0≤1125899906842624))))
def zfa (a0:Int):=(zaf9 a0).run
def z9j:SpecT:=zm 0 (Par.q intP) 1 [] zaf9 default (Par.q boolP) 1 []
theorem zaan:ze Tryz.prog 144 (z9j).spec :=
 sK (A:=⟨[],[],[],[[0],[2]],[]⟩) zhN fM Tryz.func144 (c:=(fb Tryz.f144)) (by kernel_rfl) (Lc:=0) trivial _ _ 2 _ _ _ _ _ _ [] (by rintro a0;kernel_rfl)
def za5h:List (List Nat):=[[0,1,2],[0,1,2,21],[6,7],[0,1,2,8,9],[0,1,2,8,9,10],[0,1,2,8,9,10,23],[0,1,2,8,9,10],[0,1,2,8,9,10],[0,1,2,8,9,10,32],[0,1,2,8,9,10],[0,1,2,8,9,10],[0,1,2,8,9,10,48],[0,1,2,8,9,10],[0,1,2,8,9,10,11],[0,1,2,8,9,10,11,61],[0,1,2,8,9,10],[0,1,2,8,9,10],[0,1,2,8,9,10,77],[6,7],[6,7]]
def zi4 (x0 x1 x2 x3 x4 x5:Int): Tr ((Int×Int×Int×Int×Int×Int)⊕((Int×Int)⊕(Int))) :=
 (.ite (decide (x5≥0))
  (.ite (decide (x4≥(IntKind.i64.wrap (x2 - x4))))
   (.guard ((0:Int)≤(IntKind.u64.wrap x5))
   (.guard ((2:Int)≠0)
   (.ite ((Int.tmod (Int.fdiv x0 (2 ^ (min (IntKind.u64.wrap x5).toNat 64))) 2)==1)
    (.guard (x2≠0)
    (.guard (x2≠0)
    (.ite (decide ((IntKind.i64.wrap (x4 - (IntKind.i64.wrap (x2 - x4))))≥(IntKind.i64.wrap (x2 - (Int.tmod x1 x2)))))
     (.ite ((decide ((IntKind.i64.wrap ((IntKind.i64.wrap ((IntKind.i64.wrap ((IntKind.i64.wrap (2*x3))+1))+(IntKind.i64.wrap (Int.tdiv x1 x2))))+1)) > 1125899906842624))||(decide ((IntKind.i64.wrap ((IntKind.i64.wrap ((IntKind.i64.wrap ((IntKind.i64.wrap (2*x3))+1))+(IntKind.i64.wrap (Int.tdiv x1 x2))))+1)) < 0)))
      (.leaf (.inr (.inl (0,2))))
      (.leaf (.inl (x0,x1,x2,IntKind.i64.wrap ((IntKind.i64.wrap ((IntKind.i64.wrap ((IntKind.i64.wrap (2*x3))+1))+(IntKind.i64.wrap (Int.tdiv x1 x2))))+1),IntKind.i64.wrap ((IntKind.i64.wrap (x4 - (IntKind.i64.wrap (x2 - x4)))) - (IntKind.i64.wrap (x2 - (Int.tmod x1 x2)))),IntKind.i64.wrap (x5 - 1)))))
     (.ite ((decide ((IntKind.i64.wrap ((IntKind.i64.wrap ((IntKind.i64.wrap (2*x3))+1))+(IntKind.i64.wrap (Int.tdiv x1 x2)))) > 1125899906842624))||(decide ((IntKind.i64.wrap ((IntKind.i64.wrap ((IntKind.i64.wrap (2*x3))+1))+(IntKind.i64.wrap (Int.tdiv x1 x2)))) < 0)))
      (.leaf (.inr (.inl (0,2))))
      (.leaf (.inl (x0,x1,x2,IntKind.i64.wrap ((IntKind.i64.wrap ((IntKind.i64.wrap (2*x3))+1))+(IntKind.i64.wrap (Int.tdiv x1 x2))),IntKind.i64.wrap ((IntKind.i64.wrap (x4 - (IntKind.i64.wrap (x2 - x4))))+(Int.tmod x1 x2)),IntKind.i64.wrap (x5 - 1))))))))
    (.ite ((decide ((IntKind.i64.wrap ((IntKind.i64.wrap (2*x3))+1)) > 1125899906842624))||(decide ((IntKind.i64.wrap ((IntKind.i64.wrap (2*x3))+1)) < 0)))
     (.leaf (.inr (.inl (0,2))))
     (.leaf (.inl (x0,x1,x2,IntKind.i64.wrap ((IntKind.i64.wrap (2*x3))+1),IntKind.i64.wrap (x4 - (IntKind.i64.wrap (x2 - x4))),IntKind.i64.wrap (x5 - 1))))))))
   (.guard ((0:Int)≤(IntKind.u64.wrap x5))
   (.guard ((2:Int)≠0)
   (.ite ((Int.tmod (Int.fdiv x0 (2 ^ (min (IntKind.u64.wrap x5).toNat 64))) 2)==1)
    (.guard (x2≠0)
    (.guard (x2≠0)
    (.ite (decide ((IntKind.i64.wrap (x4+x4))≥(IntKind.i64.wrap (x2 - (Int.tmod x1 x2)))))
     (.ite ((decide ((IntKind.i64.wrap ((IntKind.i64.wrap ((IntKind.i64.wrap (2*x3))+(IntKind.i64.wrap (Int.tdiv x1 x2))))+1)) > 1125899906842624))||(decide ((IntKind.i64.wrap ((IntKind.i64.wrap ((IntKind.i64.wrap (2*x3))+(IntKind.i64.wrap (Int.tdiv x1 x2))))+1)) < 0)))
      (.leaf (.inr (.inl (0,2))))
      (.leaf (.inl (x0,x1,x2,IntKind.i64.wrap ((IntKind.i64.wrap ((IntKind.i64.wrap (2*x3))+(IntKind.i64.wrap (Int.tdiv x1 x2))))+1),IntKind.i64.wrap ((IntKind.i64.wrap (x4+x4)) - (IntKind.i64.wrap (x2 - (Int.tmod x1 x2)))),IntKind.i64.wrap (x5 - 1)))))
     (.ite ((decide ((IntKind.i64.wrap ((IntKind.i64.wrap (2*x3))+(IntKind.i64.wrap (Int.tdiv x1 x2)))) > 1125899906842624))||(decide ((IntKind.i64.wrap ((IntKind.i64.wrap (2*x3))+(IntKind.i64.wrap (Int.tdiv x1 x2)))) < 0)))
      (.leaf (.inr (.inl (0,2))))
      (.leaf (.inl (x0,x1,x2,IntKind.i64.wrap ((IntKind.i64.wrap (2*x3))+(IntKind.i64.wrap (Int.tdiv x1 x2))),IntKind.i64.wrap ((IntKind.i64.wrap (x4+x4))+(Int.tmod x1 x2)),IntKind.i64.wrap (x5 - 1))))))))
    (.ite ((decide ((IntKind.i64.wrap (2*x3)) > 1125899906842624))||(decide ((IntKind.i64.wrap (2*x3)) < 0)))
     (.leaf (.inr (.inl (0,2))))
     (.leaf (.inl (x0,x1,x2,IntKind.i64.wrap (2*x3),IntKind.i64.wrap (x4+x4),IntKind.i64.wrap (x5 - 1)))))))))
  (.leaf (.inr (.inr x3))))
def zyo (x0 x1 x2 x3 x4 x5:Int):=zbp (fun s:Int×Int×Int×Int×Int×Int=>(zi4 s.1 s.2.1 s.2.2.1 s.2.2.2.1 s.2.2.2.2.1 s.2.2.2.2.2).run) (x0,x1,x2,x3,x4,x5)
def za5i:Ann:=⟨[],[],[],za5h,[]⟩
def za5j:=EndD.mk (LQ.v intP (LQ.v intP (LQ.v intP (LQ.v intP (LQ.v intP (Par.q intP)))))) ⟨[0,1,2,8,9,10],[]⟩ []
def zaua:=EndD.mk (LQ.v intP (Par.q intP)) ⟨[6,7],[]⟩ []
def zaub:=EndD.mk (Par.q intP) ⟨[8],[]⟩ []
def zayz:St→Option LR:=L2 79 2 0 za5j .ret zaua (.exit 0) zaub (u6 zi4)
def zs103a:=sub (fb Tryz.f99) [0,1,0,1,1,1]
theorem za5k:zk (zyN).env 0 zs103a zayz :=
 zkf (A:=za5i) zhN fM trivial (k:=zab zs103a) (by kernel_rfl) rfl rfl (by rintro ⟨x0,x1,x2,x3,x4,x5⟩;kernel_rfl)
def zzo (a0 a1 a2:Int): Tr (Int×Int) :=
 (.ite (((decide (a0 < 0))||(decide (a1 < 0)))||(decide (a2 < 1)))
  (.leaf (0,2))
  (.two (zyo a0 a1 a2 0 0 62) (fun v1 =>
   (.leaf (v1.1,v1.2))) (fun v2 =>
   (.leaf (v2,0)))))
def zrm (a0 a1 a2:Int):=(zzo a0 a1 a2).run
def zzp:SpecT:=zm 0 (LQ.v intP (LQ.v intP (Par.q intP))) 3 [] (u3 zzo) default (LQ.v intP (Par.q intP)) 2 []
theorem z5b:ze Tryz.prog 99 (zzp).spec :=
 sK (A:=⟨[([0,1,0,1,1,1],zayz)],[],[],za5h,[]⟩) zhN fM Tryz.func99 (c:=(fb Tryz.f99)) (by kernel_rfl) (Lc:=0) ⟨za5k,trivial⟩ _ _ 2 _ _ _ _ _ _ [] (by rintro ⟨a0,a1,a2⟩;kernel_rfl)
noncomputable def zbd8:EnvT:=⟨Tryz.prog,zw [(144,z9j)]⟩
theorem zbd9:(zbd8).Ok:=zd ⟨zaan,trivial⟩
def z60 (a0 a1:Int): Tr (Int×Int) :=
 (.bind (zfa a0) fun v1 =>
 (.ite (((!v1)||(decide (a1 < 0)))||(decide (a1 > 1000)))
  (.leaf (0,2))
  (.guard ((1000:Int)≠0)
  (.guard ((1000:Int)≠0)
  (.guard ((1000:Int)≠0)
  (.leaf (IntKind.i64.wrap ((IntKind.i64.wrap ((IntKind.i64.wrap (Int.tdiv a0 1000))*a1))+(IntKind.i64.wrap (Int.tdiv (IntKind.i64.wrap ((Int.tmod a0 1000)*a1)) 1000))),0)))))))
def zxb (a0 a1:Int):=(z60 a0 a1).run
def zad6:SpecT:=zm 0 (LQ.v intP (Par.q intP)) 2 [] (u2 z60) default (LQ.v intP (Par.q intP)) 2 []
theorem zakr:ze Tryz.prog 103 (zad6).spec :=
 sK (A:=⟨[],[],[],[[0,1],[0,1,16],[4,5],[4,5]],[]⟩) zbd9 fM Tryz.func103 (c:=(fb Tryz.f103)) (by kernel_rfl) (Lc:=0) trivial _ _ 2 _ _ _ _ _ _ [] (by rintro ⟨a0,a1⟩;kernel_rfl)
end
