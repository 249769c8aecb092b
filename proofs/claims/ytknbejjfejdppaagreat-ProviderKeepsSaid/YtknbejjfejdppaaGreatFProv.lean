/-
  The functions, each by its tree.
-/
import Derived.Test.YtknbejjfejdppaaGreatFacts
import Derived.Test.YtknbejjfejdppaaGreatAbStructs
import Derived.Test.YtknbejjfejdppaaGreatAbFun
import Derived.Test.YtknbejjfejdppaaGreatAbInsert
import Derived.Test.YtknbejjfejdppaaGreatAbClear
import Derived.Test.YtknbejjfejdppaaGreatFLine
import Derived.Test.YtknbejjfejdppaaGreatFCodec
import Derived.Test.YtknbejjfejdppaaGreatFStakeA
import Derived.Test.YtknbejjfejdppaaGreatFStakeB
import Derived.Test.YtknbejjfejdppaaGreatFBank
namespace Go.Proofs.YtknbejjfejdppaaGreat.Ab
open Go Go.RowKit
set_option maxRecDepth 100000
set_option linter.unusedVariables false
set_option linter.unusedSimpArgs false
noncomputable section

noncomputable def zc109 : Code := Tryz.f38.body.getD .skip
def zv109 : List (List Nat) := [[0], [0]]
noncomputable def zy109 : EnvT := ⟨Tryz.prog, lookT [(93, F_stake_New), (94, F_meter_New)]⟩
theorem zh109 : (zy109).Ok := lookT_ok ⟨ok_stake_New, ok_meter_New, trivial⟩
def za109 : Ann := ⟨[], [], [], zv109, []⟩
def T_provider_New  : Tr (Provider) :=
  (.bind (sh_stake_New) fun v1 =>
  (.bind (sh_meter_New 0 0) fun v2 =>
  (.leaf (⟨0, 0, v1, [], (default : Links), v2, []⟩ : Provider))))
def sh_provider_New  : Option (Provider) := (T_provider_New ).run
def zr109 : LQ (Unit) := LQ.nil
def qr_provider_New : LQ (Provider) := (Par.q (Par.ofLP providerL))
def F_provider_New : SpecT := specF 0 zr109 0 [] (fun s => T_provider_New ) default qr_provider_New 1 []
theorem ok_provider_New : SpecOk Tryz.prog 38 (F_provider_New).spec :=
  specF_ok (A := za109) zh109 Facts.mix Tryz.func38 (c := zc109) (by kernel_rfl) (Lc := 0) trivial zr109 0 3 [] (fun s => T_provider_New ) default qr_provider_New 1 [] [.pubB 0] (by decide) (by kernel_rfl) (by rfl) (by decide) (by decide) (by rfl)
    (by rintro _; kernel_rfl)

noncomputable def zc110 : Code := Tryz.f67.body.getD .skip
def zv110 : List (List Nat) := [[0], [0, 5, 6, 7], [0, 5, 6, 7, 8], [0, 3, 4, 5, 6, 7], [0, 5, 6, 7, 44], [2], [0, 5, 6, 7], [2]]
noncomputable def zy110 : EnvT := ⟨Tryz.prog, lookT []⟩
theorem zh110 : (zy110).Ok := lookT_ok trivial
def T_provider_set_l1 (x0 : (List Power)) (x1 : (List Power)) (x2 : Int) (x3 : Int) : Tr (((List Power) × (List Power) × Int × Int) ⊕ ((Bool) ⊕ (Unit))) :=
  (.ite (decide (x3 < x2))
    (.guard ((0 : Int) ≤ x3 ∧ x3 < ((Sl.len (.powers x1) : Nat) : Int))
    (.guard (((decide (x3 > 0)) = true → (((decide (((x1.getD x3.toNat default).V) < 0)) || (decide (((x1.getD x3.toNat default).V) ≥ 6))) = false → ((0 : Int) ≤ (IntKind.i64.wrap (x3 - 1)) ∧ (IntKind.i64.wrap (x3 - 1)) < ((Sl.len (.powers x0) : Nat) : Int)) ∧ True)))
    (.ite (((((decide (((x1.getD x3.toNat default).V) < 0)) || (decide (((x1.getD x3.toNat default).V) ≥ 6))) || ((decide (x3 > 0)) && (decide (((x0.getD ((IntKind.i64.wrap (x3 - 1)).toNat) default).V) ≥ ((x1.getD x3.toNat default).V))))) || (decide (((x1.getD x3.toNat default).N) < 1))) || (decide (((x1.getD x3.toNat default).N) > 1125899906842624)))
      (.leaf (.inr (.inl false)))
      (.leaf (.inl (x0, x1, x2, IntKind.i64.wrap (x3 + 1)))))))
    (.leaf (.inr (.inr ()))))
def sh_provider_set_l1 (x0 : (List Power)) (x1 : (List Power)) (x2 : Int) (x3 : Int) : Option ((Bool) ⊕ (Unit)) := iter (fun s : (List Power) × (List Power) × Int × Int => (T_provider_set_l1 s.1 s.2.1 s.2.2.1 s.2.2.2).run) (x0, x1, x2, x3)
def za110a : Ann := ⟨[], [], [], zv110, []⟩
def zq110a : EndD ((List Power) × (List Power) × Int × Int) := ⟨(LQ.seq (Par.q powersP) (LQ.seq (Par.q powersP) (LQ.seq (Par.q intP) (Par.q intP)))), ⟨[0, 5, 6, 7], [.pub 0, .nilsl 0 (.powers []), .pub 5, .nilsl 5 (.powers [])]⟩, []⟩
def zq110ae0 : EndD (Bool) := ⟨(Par.q boolP), ⟨[2], []⟩, []⟩
def zq110ae1 : EndD (Unit) := ⟨LQ.nil, ⟨[], []⟩, []⟩
def zl110a : St → Option LR := L2 46 3 0 zq110a .ret zq110ae0 (.exit 0) zq110ae1 (fun s => T_provider_set_l1 s.1 s.2.1 s.2.2.1 s.2.2.2)
theorem zk110a : PieceOk (zy110).env 0 (sub zc110 [0, 1, 0, 1]) zl110a :=
  loop2 (A := za110a) zh110 Facts.mix trivial (k := loopB (sub zc110 [0, 1, 0, 1])) (by kernel_rfl) rfl rfl (by rintro ⟨x0, x1, x2, x3⟩; kernel_rfl)
def za110 : Ann := ⟨[([0, 1, 0, 1], zl110a)], [], [], zv110, []⟩
def T_provider_set (a0 : (List Power)) : Tr (Bool) :=
  (.two (sh_provider_set_l1 a0 a0 ((a0.length : Nat) : Int) 0) (fun v1 =>
    (.leaf v1)) (fun v2 =>
    (.leaf true)))
def sh_provider_set (a0 : (List Power)) : Option (Bool) := (T_provider_set a0).run
def zr110 : LQ ((List Power)) := (Par.q powersP)
def qr_provider_set : LQ (Bool) := (Par.q boolP)
def F_provider_set : SpecT := specF 0 zr110 1 [] (fun s => T_provider_set s) default qr_provider_set 1 []
theorem ok_provider_set : SpecOk Tryz.prog 67 (F_provider_set).spec :=
  specF_ok (A := za110) zh110 Facts.mix Tryz.func67 (c := zc110) (by kernel_rfl) (Lc := 0) ⟨zk110a, trivial⟩ zr110 1 3 [] (fun s => T_provider_set s) default qr_provider_set 1 [] [] (by decide) (by kernel_rfl) (by rfl) (by decide) (by decide) (by rfl)
    (by rintro a0; kernel_rfl)

noncomputable def zc111 : Code := Tryz.f70.body.getD .skip
def zv111 : List (List Nat) := [[1, 2], [3]]
noncomputable def zy111 : EnvT := ⟨Tryz.prog, lookT [(71, F_codec_Good)]⟩
theorem zh111 : (zy111).Ok := lookT_ok ⟨ok_codec_Good, trivial⟩
def za111 : Ann := ⟨[], [], [], zv111, []⟩
def T_provider_Good_1 (a0 : Asked) (a1 : Provider) : Tr (Bool × Provider) :=
  (.guard ((((decide (a0.C < 0)) || (decide (a0.C ≥ 2))) = false → ((0 : Int) ≤ a0.C ∧ (a0.C : Int) < 2) ∧ True))
  (.guard (((((decide (a0.C < 0)) || (decide (a0.C ≥ 2))) || (!(a1.Links.On.get a0.C))) = false → ((sh_codec_Good a0.P).isSome = true) ∧ True))
  (.leaf (((((decide (a0.C < 0)) || (decide (a0.C ≥ 2))) || (!(a1.Links.On.get a0.C))) || (((sh_codec_Good a0.P).getD default) != 0)) || (a0.P.Kind == 1), a1))))
def sh_provider_Good_1 (a0 : Asked) (a1 : Provider) : Option (Bool × Provider) := (T_provider_Good_1 a0 a1).run
def zr111 : LQ (Asked × Provider) := (LQ.seq (Par.q (Par.ofLP askedL)) (LQ.skip (LQ.const (.ptr 0 0)) (LP.q providerL)))
def qr_provider_Good_1 : LQ (Bool × Provider) := (LQ.seq (Par.q boolP) (LP.q providerL))
def F_provider_Good_1 : SpecT := specF 1 zr111 2 [.cells 47 97] (fun s => T_provider_Good_1 s.1 s.2) default qr_provider_Good_1 1 [.cells 47 97]
theorem ok_provider_Good_1 : SpecOk Tryz.prog 70 (F_provider_Good_1).spec :=
  specF_ok (A := za111) zh111 Facts.mix Tryz.func70 (c := zc111) (by kernel_rfl) (Lc := 1) trivial zr111 2 4 [.cells 47 97] (fun s => T_provider_Good_1 s.1 s.2) default qr_provider_Good_1 1 [.cells 47 97] [.pubN 0] (by decide) (by kernel_rfl) (by rfl) (by decide) (by decide) (by rfl)
    (by rintro ⟨a0, a1⟩; kernel_rfl)

noncomputable def zc112 : Code := Tryz.f120.body.getD .skip
def zv112 : List (List Nat) := [[0, 1], [0, 1, 7, 8], [0, 1, 7, 8, 9], [0, 1, 5, 7, 8], [0, 1, 5, 7, 8, 16], [4], [0, 1, 7, 8], [4]]
noncomputable def zy112 : EnvT := ⟨Tryz.prog, lookT [(70, F_provider_Good_1)]⟩
theorem zh112 : (zy112).Ok := lookT_ok ⟨ok_provider_Good_1, trivial⟩
def T_slices_IndexFunc_api_Asked_g_l1 (x0 : (List Asked)) (x1 : Int) (x2 : Int) (x3 : Provider) : Tr (((List Asked) × Int × Int × Provider) ⊕ ((Int × Provider) ⊕ (Provider))) :=
  (.ite (decide (x2 < x1))
    (.guard ((0 : Int) ≤ x2 ∧ x2 < ((Sl.len (.asked x0) : Nat) : Int))
    (.bind (sh_provider_Good_1 (x0.getD x2.toNat default) x3) fun v1 =>
    (.ite (v1.1)
      (.leaf (.inr (.inl (x2, v1.2))))
      (.leaf (.inl (x0, x1, IntKind.i64.wrap (x2 + 1), v1.2))))))
    (.leaf (.inr (.inr x3))))
def sh_slices_IndexFunc_api_Asked_g_l1 (x0 : (List Asked)) (x1 : Int) (x2 : Int) (x3 : Provider) : Option ((Int × Provider) ⊕ (Provider)) := iter (fun s : (List Asked) × Int × Int × Provider => (T_slices_IndexFunc_api_Asked_g_l1 s.1 s.2.1 s.2.2.1 s.2.2.2).run) (x0, x1, x2, x3)
def za112a : Ann := ⟨[], [], [], zv112, []⟩
def zq112a : EndD ((List Asked) × Int × Int × Provider) := ⟨(LQ.seq (Par.q askedP) (LQ.skip (LQ.const (.fn 70 [.ptr 0 0])) (LQ.seq (Par.q intP) (LQ.seq (Par.q intP) (LP.q providerL))))), ⟨[0, 1, 7, 8], [.pub 0, .nilsl 0 (.asked [])]⟩, [.cells 47 97]⟩
def zq112ae0 : EndD (Int × Provider) := ⟨(LQ.seq (Par.q intP) (LP.q providerL)), ⟨[4], []⟩, [.cells 47 97]⟩
def zq112ae1 : EndD (Provider) := ⟨(LP.q providerL), ⟨[], []⟩, [.cells 47 97]⟩
def zl112a : St → Option LR := L2 19 3 1 zq112a .ret zq112ae0 (.exit 0) zq112ae1 (fun s => T_slices_IndexFunc_api_Asked_g_l1 s.1 s.2.1 s.2.2.1 s.2.2.2)
theorem zk112a : PieceOk (zy112).env 1 (sub zc112 [0, 1, 0, 1]) zl112a :=
  loop2 (A := za112a) zh112 Facts.mix trivial (k := loopB (sub zc112 [0, 1, 0, 1])) (by kernel_rfl) rfl rfl (by rintro ⟨x0, x1, x2, x3⟩; kernel_rfl)
def za112 : Ann := ⟨[([0, 1, 0, 1], zl112a)], [], [], zv112, []⟩
def T_slices_IndexFunc_api_Asked_g (a0 : (List Asked)) (a1 : Provider) : Tr (Int × Provider) :=
  (.two (sh_slices_IndexFunc_api_Asked_g_l1 a0 ((a0.length : Nat) : Int) 0 a1) (fun v2 =>
    (.leaf (v2.1, v2.2))) (fun v3 =>
    (.leaf (-1, v3))))
def sh_slices_IndexFunc_api_Asked_g (a0 : (List Asked)) (a1 : Provider) : Option (Int × Provider) := (T_slices_IndexFunc_api_Asked_g a0 a1).run
def zr112 : LQ ((List Asked) × Provider) := (LQ.seq (Par.q askedP) (LQ.skip (LQ.const (.fn 70 [.ptr 0 0])) (LP.q providerL)))
def qr_slices_IndexFunc_api_Asked_g : LQ (Int × Provider) := (LQ.seq (Par.q intP) (LP.q providerL))
def F_slices_IndexFunc_api_Asked_g : SpecT := specF 1 zr112 2 [.cells 47 97] (fun s => T_slices_IndexFunc_api_Asked_g s.1 s.2) default qr_slices_IndexFunc_api_Asked_g 1 [.cells 47 97]
theorem ok_slices_IndexFunc_api_Asked_g : SpecOk Tryz.prog 120 (F_slices_IndexFunc_api_Asked_g).spec :=
  specF_ok (A := za112) zh112 Facts.mix Tryz.func120 (c := zc112) (by kernel_rfl) (Lc := 1) ⟨zk112a, trivial⟩ zr112 2 3 [.cells 47 97] (fun s => T_slices_IndexFunc_api_Asked_g s.1 s.2) default qr_slices_IndexFunc_api_Asked_g 1 [.cells 47 97] [.pubN 0] (by decide) (by kernel_rfl) (by rfl) (by decide) (by decide) (by rfl)
    (by rintro ⟨a0, a1⟩; kernel_rfl)

noncomputable def zc113 : Code := Tryz.f69.body.getD .skip
def zv113 : List (List Nat) := [[0, 1], [4]]
noncomputable def zy113 : EnvT := ⟨Tryz.prog, lookT [(120, F_slices_IndexFunc_api_Asked_g)]⟩
theorem zh113 : (zy113).Ok := lookT_ok ⟨ok_slices_IndexFunc_api_Asked_g, trivial⟩
def za113 : Ann := ⟨[], [], [], zv113, []⟩
def T_slices_ContainsFunc_api_Asked (a0 : (List Asked)) (a1 : Provider) : Tr (Bool × Provider) :=
  (.bind (sh_slices_IndexFunc_api_Asked_g a0 a1) fun v1 =>
  (.leaf (decide (v1.1 ≥ 0), v1.2)))
def sh_slices_ContainsFunc_api_Asked (a0 : (List Asked)) (a1 : Provider) : Option (Bool × Provider) := (T_slices_ContainsFunc_api_Asked a0 a1).run
def zr113 : LQ ((List Asked) × Provider) := (LQ.seq (Par.q askedP) (LQ.skip (LQ.const (.fn 70 [.ptr 0 0])) (LP.q providerL)))
def qr_slices_ContainsFunc_api_Asked : LQ (Bool × Provider) := (LQ.seq (Par.q boolP) (LP.q providerL))
def F_slices_ContainsFunc_api_Asked : SpecT := specF 1 zr113 2 [.cells 47 97] (fun s => T_slices_ContainsFunc_api_Asked s.1 s.2) default qr_slices_ContainsFunc_api_Asked 1 [.cells 47 97]
theorem ok_slices_ContainsFunc_api_Asked : SpecOk Tryz.prog 69 (F_slices_ContainsFunc_api_Asked).spec :=
  specF_ok (A := za113) zh113 Facts.mix Tryz.func69 (c := zc113) (by kernel_rfl) (Lc := 1) trivial zr113 2 3 [.cells 47 97] (fun s => T_slices_ContainsFunc_api_Asked s.1 s.2) default qr_slices_ContainsFunc_api_Asked 1 [.cells 47 97] [.pubN 0] (by decide) (by kernel_rfl) (by rfl) (by decide) (by decide) (by rfl)
    (by rintro ⟨a0, a1⟩; kernel_rfl)

noncomputable def zc114 : Code := Tryz.f22.body.getD .skip
def zv114 : List (List Nat) := [[1], [1, 36], [2], [1, 38, 39], [1, 38, 39, 40], [1, 4, 38, 39], [1, 4, 38, 39, 71], [2], [1, 4, 38, 39, 73, 74, 75], [1, 4, 38, 39, 73, 74, 75, 76], [1, 4, 5, 6, 38, 39, 73, 74, 75], [1, 4, 38, 39, 73, 74, 75, 99], [2], [1, 4, 38, 39, 73, 74, 75], [1, 38, 39], [2]]
noncomputable def zy114 : EnvT := ⟨Tryz.prog, lookT [(66, F_stake_Good), (67, F_provider_set), (68, F_line_Good), (69, F_slices_ContainsFunc_api_Asked)]⟩
theorem zh114 : (zy114).Ok := lookT_ok ⟨ok_stake_Good, ok_provider_set, ok_line_Good, ok_slices_ContainsFunc_api_Asked, trivial⟩
def T_provider_Good_l1 (x0 : Links) (x1 : Int) (x2 : (List Int)) (x3 : Int) (x4 : Int) (x5 : Provider) (x6 : Link) : Tr ((Links × Int × (List Int) × Int × Int × Provider × Link) ⊕ ((Bool) ⊕ (Links × Int × Provider))) :=
  (.ite (decide (x4 < x3))
    (.guard ((0 : Int) ≤ x4 ∧ x4 < ((Sl.len (.ints x2) : Nat) : Int))
    (.guard (((decide (x4 > 0)) = true → (((decide ((x2.getD x4.toNat 0) < 0)) || (decide ((x2.getD x4.toNat 0) ≥ 6))) = false → ((0 : Int) ≤ (IntKind.i64.wrap (x4 - 1)) ∧ (IntKind.i64.wrap (x4 - 1)) < ((Sl.len (.ints x6.Done) : Nat) : Int)) ∧ True)))
    (.ite (((decide ((x2.getD x4.toNat 0) < 0)) || (decide ((x2.getD x4.toNat 0) ≥ 6))) || ((decide (x4 > 0)) && (decide ((x6.Done.getD ((IntKind.i64.wrap (x4 - 1)).toNat) 0) ≥ (x2.getD x4.toNat 0)))))
      (.leaf (.inr (.inl false)))
      (.leaf (.inl (x0, x1, x2, x3, IntKind.i64.wrap (x4 + 1), x5, x6))))))
    (.leaf (.inr (.inr (x0, x1, x5)))))
def sh_provider_Good_l1 (x0 : Links) (x1 : Int) (x2 : (List Int)) (x3 : Int) (x4 : Int) (x5 : Provider) (x6 : Link) : Option ((Bool) ⊕ (Links × Int × Provider)) := iter (fun s : Links × Int × (List Int) × Int × Int × Provider × Link => (T_provider_Good_l1 s.1 s.2.1 s.2.2.1 s.2.2.2.1 s.2.2.2.2.1 s.2.2.2.2.2.1 s.2.2.2.2.2.2).run) (x0, x1, x2, x3, x4, x5, x6)
def za114a : Ann := ⟨[], [], [], zv114, []⟩
def zq114a : EndD (Links × Int × (List Int) × Int × Int × Provider × Link) := ⟨(LQ.skip (LQ.const (.ptr 0 0)) (LQ.skip (LQ.const (.ptr 1 0)) (LQ.seq (Par.q (Par.ofLP linksL)) (LQ.seq (Par.q intP) (LQ.seq (Par.q intsP) (LQ.seq (Par.q intP) (LQ.seq (Par.q intP) (LQ.seq (LP.q providerL) (LP.q linkL))))))))), ⟨[1, 4, 38, 39, 73, 74, 75], [.pub 73, .nilsl 73 (.ints [])]⟩, [.cells 47 97, .cells 41 14]⟩
def zq114ae0 : EndD (Bool) := ⟨(Par.q boolP), ⟨[2], []⟩, []⟩
def zq114ae1 : EndD (Links × Int × Provider) := ⟨(LQ.skip (LQ.const (.ptr 0 0)) (LQ.seq (Par.q (Par.ofLP linksL)) (LQ.seq (Par.q intP) (LP.q providerL)))), ⟨[1, 38, 39], []⟩, [.cells 47 97]⟩
def zl114a : St → Option LR := L2 107 4 0 zq114a .ret zq114ae0 (.exit 2) zq114ae1 (fun s => T_provider_Good_l1 s.1 s.2.1 s.2.2.1 s.2.2.2.1 s.2.2.2.2.1 s.2.2.2.2.2.1 s.2.2.2.2.2.2)
theorem zk114a : PieceOk (zy114).env 0 (sub zc114 [0, 1, 1, 1, 0, 0, 1, 1, 0, 0, 1, 0, 1, 1]) zl114a :=
  loop2 (A := za114a) zh114 Facts.mix trivial (k := loopB (sub zc114 [0, 1, 1, 1, 0, 0, 1, 1, 0, 0, 1, 0, 1, 1])) (by kernel_rfl) rfl rfl (by rintro ⟨x0, x1, x2, x3, x4, x5, x6⟩; kernel_rfl)
def T_provider_Good_l2 (x0 : Links) (x1 : Int) (x2 : Provider) : Tr ((Links × Int × Provider) ⊕ ((Bool) ⊕ (Provider))) :=
  (.ite (decide (x1 < 2))
    (.guard ((0 : Int) ≤ x1 ∧ (x1 : Int) < 2)
    (.guard ((((((x0.On.get x1) && (x0.Gone.get x1)) || (decide ((x0.Base.get x1) < 0))) || (decide ((x0.Base.get x1) > x2.Height))) = false → ((sh_provider_set (x0.Told.get x1)).isSome = true) ∧ True))
    (.guard (((((((x0.On.get x1) && (x0.Gone.get x1)) || (decide ((x0.Base.get x1) < 0))) || (decide ((x0.Base.get x1) > x2.Height))) || (!((sh_provider_set (x0.Told.get x1)).getD default))) = false → ((sh_line_Good (⟨x0.Said.get x1, x0.Due.get x1, x0.Got.get x1, x0.Closed.get x1⟩ : Line)).isSome = true) ∧ True))
    (.ite ((((((x0.On.get x1) && (x0.Gone.get x1)) || (decide ((x0.Base.get x1) < 0))) || (decide ((x0.Base.get x1) > x2.Height))) || (!((sh_provider_set (x0.Told.get x1)).getD default))) || (!((sh_line_Good (⟨x0.Said.get x1, x0.Due.get x1, x0.Got.get x1, x0.Closed.get x1⟩ : Line)).getD default)))
      (.leaf (.inr (.inl false)))
      (.two (sh_provider_Good_l1 x0 x1 (x0.Done.get x1) (((x0.Done.get x1).length : Nat) : Int) 0 x2 (⟨x0.On.get x1, x0.Gone.get x1, x0.Base.get x1, x0.Told.get x1, x0.Fresh.get x1, x0.Done.get x1, (⟨x0.Said.get x1, x0.Due.get x1, x0.Got.get x1, x0.Closed.get x1⟩ : Line), (⟨x0.SHeight.get x1, x0.STime.get x1, x0.SSaid.get x1, x0.SGot.get x1⟩ : Head)⟩ : Link)) (fun v2 =>
        (.leaf (.inr (.inl v2)))) (fun v3 =>
        (.leaf (.inl (v3.1, IntKind.i64.wrap (v3.2.1 + 1), v3.2.2)))))))))
    (.leaf (.inr (.inr x2))))
def sh_provider_Good_l2 (x0 : Links) (x1 : Int) (x2 : Provider) : Option ((Bool) ⊕ (Provider)) := iter (fun s : Links × Int × Provider => (T_provider_Good_l2 s.1 s.2.1 s.2.2).run) (x0, x1, x2)
def za114b : Ann := ⟨[([0, 1, 1, 1, 0, 0, 1, 1, 0, 0, 1, 0, 1, 1], zl114a)], [], [], zv114, []⟩
def zq114b : EndD (Links × Int × Provider) := ⟨(LQ.skip (LQ.const (.ptr 0 0)) (LQ.seq (Par.q (Par.ofLP linksL)) (LQ.seq (Par.q intP) (LP.q providerL)))), ⟨[1, 38, 39], []⟩, [.cells 47 97]⟩
def zq114be0 : EndD (Bool) := ⟨(Par.q boolP), ⟨[2], []⟩, []⟩
def zq114be1 : EndD (Provider) := ⟨(LQ.skip (LQ.const (.ptr 0 0)) (LP.q providerL)), ⟨[1], []⟩, [.cells 47 97]⟩
def zl114b : St → Option LR := L2 107 4 0 zq114b .ret zq114be0 (.exit 0) zq114be1 (fun s => T_provider_Good_l2 s.1 s.2.1 s.2.2)
theorem zk114b : PieceOk (zy114).env 0 (sub zc114 [0, 1, 0, 1, 1]) zl114b :=
  loop2 (A := za114b) zh114 Facts.mix ⟨zk114a, trivial⟩ (k := loopB (sub zc114 [0, 1, 0, 1, 1])) (by kernel_rfl) rfl rfl (by rintro ⟨x0, x1, x2⟩; kernel_rfl)
def za114 : Ann := ⟨[([0, 1, 0, 1, 1], zl114b)], [], [], zv114, []⟩
def T_provider_Good (a0 : Provider) : Tr (Bool) :=
  (.bind (sh_stake_Good a0.Stake) fun v1 =>
  (.guard (((((((!v1) || (decide (a0.Height < 0))) || (decide (a0.Height ≥ 1099511627776))) || (decide (a0.Time < 0))) || (decide (a0.Time > 1099511627776))) = false → ((sh_provider_set a0.Set).isSome = true) ∧ True))
  (.ite ((((((!v1) || (decide (a0.Height < 0))) || (decide (a0.Height ≥ 1099511627776))) || (decide (a0.Time < 0))) || (decide (a0.Time > 1099511627776))) || (!((sh_provider_set a0.Set).getD default)))
    (.leaf false)
    (.two (sh_provider_Good_l2 a0.Links 0 a0) (fun v4 =>
      (.leaf v4)) (fun v5 =>
      (.bind (sh_slices_ContainsFunc_api_Asked v5.Queue v5) fun v6 =>
      (.leaf (!v6.1))))))))
def sh_provider_Good (a0 : Provider) : Option (Bool) := (T_provider_Good a0).run
def zr114 : LQ (Provider) := (Par.q (Par.ofLP providerL))
def qr_provider_Good : LQ (Bool) := (Par.q boolP)
def F_provider_Good : SpecT := specF 0 zr114 1 [] (fun s => T_provider_Good s) default qr_provider_Good 1 []
theorem ok_provider_Good : SpecOk Tryz.prog 22 (F_provider_Good).spec :=
  specF_ok (A := za114) zh114 Facts.mix Tryz.func22 (c := zc114) (by kernel_rfl) (Lc := 0) ⟨zk114b, trivial⟩ zr114 1 4 [] (fun s => T_provider_Good s) default qr_provider_Good 1 [] [] (by decide) (by kernel_rfl) (by rfl) (by decide) (by decide) (by rfl)
    (by rintro a0; kernel_rfl)

noncomputable def zc115 : Code := Tryz.f33.body.getD .skip
def zv115 : List (List Nat) := [[1, 2, 3, 4, 8], [1, 2, 3, 4, 8, 14], [8, 9], [4, 8, 10, 11], [4, 8, 10, 11, 26], [8, 9], [4, 8], [8, 9]]
noncomputable def zy115 : EnvT := ⟨Tryz.prog, lookT [(22, F_provider_Good), (85, F_stake_Delegate)]⟩
theorem zh115 : (zy115).Ok := lookT_ok ⟨ok_provider_Good, ok_stake_Delegate, trivial⟩
def za115 : Ann := ⟨[], [], [], zv115, []⟩
def T_provider_Delegate (a0 : Provider) (a1 : Int) (a2 : Int) (a3 : Int) : Tr (Provider × Int) :=
  (.bind (sh_provider_Good a0) fun v1 =>
  (.ite (!v1)
    (.leaf (a0, 2))
    (.bind (sh_stake_Delegate a0.Stake a1 a2 a3) fun v2 =>
    (.ite (v2.2 != 0)
      (.leaf (a0, v2.2))
      (.leaf ({ (a0 : Provider) with Stake := v2.1 }, 0))))))
def sh_provider_Delegate (a0 : Provider) (a1 : Int) (a2 : Int) (a3 : Int) : Option (Provider × Int) := (T_provider_Delegate a0 a1 a2 a3).run
def zr115 : LQ (Provider × Int × Int × Int) := (LQ.seq (Par.q (Par.ofLP providerL)) (LQ.seq (Par.q intP) (LQ.seq (Par.q intP) (Par.q intP))))
def qr_provider_Delegate : LQ (Provider × Int) := (LQ.seq (Par.q (Par.ofLP providerL)) (Par.q intP))
def F_provider_Delegate : SpecT := specF 0 zr115 4 [] (fun s => T_provider_Delegate s.1 s.2.1 s.2.2.1 s.2.2.2) default qr_provider_Delegate 2 []
theorem ok_provider_Delegate : SpecOk Tryz.prog 33 (F_provider_Delegate).spec :=
  specF_ok (A := za115) zh115 Facts.mix Tryz.func33 (c := zc115) (by kernel_rfl) (Lc := 0) trivial zr115 4 5 [] (fun s => T_provider_Delegate s.1 s.2.1 s.2.2.1 s.2.2.2) default qr_provider_Delegate 2 [] [.pubB 8] (by decide) (by kernel_rfl) (by rfl) (by decide) (by decide) (by rfl)
    (by rintro ⟨a0, a1, a2, a3⟩; kernel_rfl)

noncomputable def zc124 : Code := Tryz.f47.body.getD .skip
def zv124 : List (List Nat) := [[0, 2, 6], [0, 2, 6, 7], [0, 2, 6, 7, 49], [0, 2, 6, 8, 9], [0, 2, 6, 8, 65], [0, 6, 9, 10], [0, 6, 10, 78], []]
noncomputable def zy124 : EnvT := ⟨Tryz.prog, lookT [(103, F_stake_Diff), (28, F_codec_Encode), (104, F_line_Say), (79, F_slices_Clone_api_Power_p)]⟩
theorem zh124 : (zy124).Ok := lookT_ok ⟨ok_stake_Diff, ok_codec_Encode, ok_line_Say, ok_slices_Clone_api_Power_p, trivial⟩
def za124 : Ann := ⟨[], [], [], zv124, []⟩
def T_provider_tell (a0 : Int) (a1 : Int) (a2 : Provider) : Tr (Provider) :=
  (.guard ((0 : Int) ≤ a0 ∧ (a0 : Int) < 2)
  (.guard ((sh_stake_Diff (a2.Links.Told.get a0) a2.Set).isSome = true)
  (.ite ((!(a2.Links.On.get a0)) || (((((((sh_stake_Diff (a2.Links.Told.get a0) a2.Set).getD default).length : Nat) : Int) == 0) && (!(a2.Links.Fresh.get a0))) && ((((a2.Links.Done.get a0).length : Nat) : Int) == 0)))
    (.leaf a2)
    (.guard ((sh_codec_Encode (⟨1, a2.Height, 0, 0, ((sh_stake_Diff (a2.Links.Told.get a0) a2.Set).getD default), a2.Links.Done.get a0⟩ : Packet)).isSome = true)
    (.ite ((((sh_codec_Encode (⟨1, a2.Height, 0, 0, ((sh_stake_Diff (a2.Links.Told.get a0) a2.Set).getD default), a2.Links.Done.get a0⟩ : Packet)).getD default).2) != 0)
      (.leaf a2)
      (.bind (sh_line_Say (⟨a2.Links.Said.get a0, a2.Links.Due.get a0, a2.Links.Got.get a0, a2.Links.Closed.get a0⟩ : Line) (((sh_codec_Encode (⟨1, a2.Height, 0, 0, ((sh_stake_Diff (a2.Links.Told.get a0) a2.Set).getD default), a2.Links.Done.get a0⟩ : Packet)).getD default).1) (IntKind.i64.wrap (a1 + 40))) fun v1 =>
      (.ite (v1.2 != 0)
        (.leaf a2)
        (.guard ((sh_slices_Clone_api_Power_p a2.Set).isSome = true)
        (.leaf ({ (a2 : Provider) with Links := { (a2.Links : Links) with Told := (a2.Links.Told.set a0 ((sh_slices_Clone_api_Power_p a2.Set).getD default)), Fresh := (a2.Links.Fresh.set a0 false), Done := (a2.Links.Done.set a0 []), Said := (a2.Links.Said.set a0 v1.1.Said), Due := (a2.Links.Due.set a0 v1.1.Due), Got := (a2.Links.Got.set a0 v1.1.Got), Closed := (a2.Links.Closed.set a0 v1.1.Closed) } }))))))))))
def sh_provider_tell (a0 : Int) (a1 : Int) (a2 : Provider) : Option (Provider) := (T_provider_tell a0 a1 a2).run
def zr124 : LQ (Int × Int × Provider) := (LQ.skip (LQ.const (.ptr 0 0)) (LQ.seq (Par.q intP) (LQ.seq (Par.q intP) (LP.q providerL))))
def qr_provider_tell : LQ (Provider) := (LP.q providerL)
def F_provider_tell : SpecT := specF 1 zr124 3 [.cells 47 97] (fun s => T_provider_tell s.1 s.2.1 s.2.2) default qr_provider_tell 0 [.cells 47 97]
theorem ok_provider_tell : SpecOk Tryz.prog 47 (F_provider_tell).spec :=
  specF_ok (A := za124) zh124 Facts.mix Tryz.func47 (c := zc124) (by kernel_rfl) (Lc := 1) trivial zr124 3 4 [.cells 47 97] (fun s => T_provider_tell s.1 s.2.1 s.2.2) default qr_provider_tell 0 [.cells 47 97] [.pubN 0] (by decide) (by kernel_rfl) (by rfl) (by decide) (by decide) (by rfl)
    (by rintro ⟨a0, a1, a2⟩; kernel_rfl)

noncomputable def zc125 : Code := Tryz.f177.body.getD .skip
def zv125 : List (List Nat) := [[0], [2]]
noncomputable def zy125 : EnvT := ⟨Tryz.prog, lookT []⟩
theorem zh125 : (zy125).Ok := lookT_ok trivial
def za125 : Ann := ⟨[], [], [], zv125, []⟩
def T_cmp_isNaN_int (a0 : Int) : Tr (Bool) :=
  (.leaf (a0 != a0))
def sh_cmp_isNaN_int (a0 : Int) : Option (Bool) := (T_cmp_isNaN_int a0).run
def zr125 : LQ (Int) := (Par.q intP)
def qr_cmp_isNaN_int : LQ (Bool) := (Par.q boolP)
def F_cmp_isNaN_int : SpecT := specF 0 zr125 1 [] (fun s => T_cmp_isNaN_int s) default qr_cmp_isNaN_int 1 []
theorem ok_cmp_isNaN_int : SpecOk Tryz.prog 177 (F_cmp_isNaN_int).spec :=
  specF_ok (A := za125) zh125 Facts.mix Tryz.func177 (c := zc125) (by kernel_rfl) (Lc := 0) trivial zr125 1 2 [] (fun s => T_cmp_isNaN_int s) default qr_cmp_isNaN_int 1 [] [] (by decide) (by kernel_rfl) (by rfl) (by decide) (by decide) (by rfl)
    (by rintro a0; kernel_rfl)

noncomputable def zc126 : Code := Tryz.f140.body.getD .skip
def zv126 : List (List Nat) := [[0, 1], [4]]
noncomputable def zy126 : EnvT := ⟨Tryz.prog, lookT [(177, F_cmp_isNaN_int)]⟩
theorem zh126 : (zy126).Ok := lookT_ok ⟨ok_cmp_isNaN_int, trivial⟩
def za126 : Ann := ⟨[], [], [], zv126, []⟩
def T_cmp_Less_int (a0 : Int) (a1 : Int) : Tr (Bool) :=
  (.bind (sh_cmp_isNaN_int a0) fun v1 =>
  (.guard ((v1 = true → ((sh_cmp_isNaN_int a1).isSome = true) ∧ True))
  (.leaf ((v1 && (!((sh_cmp_isNaN_int a1).getD default))) || (decide (a0 < a1))))))
def sh_cmp_Less_int (a0 : Int) (a1 : Int) : Option (Bool) := (T_cmp_Less_int a0 a1).run
def zr126 : LQ (Int × Int) := (LQ.seq (Par.q intP) (Par.q intP))
def qr_cmp_Less_int : LQ (Bool) := (Par.q boolP)
def F_cmp_Less_int : SpecT := specF 0 zr126 2 [] (fun s => T_cmp_Less_int s.1 s.2) default qr_cmp_Less_int 1 []
theorem ok_cmp_Less_int : SpecOk Tryz.prog 140 (F_cmp_Less_int).spec :=
  specF_ok (A := za126) zh126 Facts.mix Tryz.func140 (c := zc126) (by kernel_rfl) (Lc := 0) trivial zr126 2 2 [] (fun s => T_cmp_Less_int s.1 s.2) default qr_cmp_Less_int 1 [] [] (by decide) (by kernel_rfl) (by rfl) (by decide) (by decide) (by rfl)
    (by rintro ⟨a0, a1⟩; kernel_rfl)

noncomputable def zc127 : Code := Tryz.f141.body.getD .skip
def zv127 : List (List Nat) := [[0], [2]]
noncomputable def zy127 : EnvT := ⟨Tryz.prog, lookT []⟩
theorem zh127 : (zy127).Ok := lookT_ok trivial
def za127 : Ann := ⟨[], [], [], zv127, []⟩
def T_slices_isNaN_int (a0 : Int) : Tr (Bool) :=
  (.leaf (a0 != a0))
def sh_slices_isNaN_int (a0 : Int) : Option (Bool) := (T_slices_isNaN_int a0).run
def zr127 : LQ (Int) := (Par.q intP)
def qr_slices_isNaN_int : LQ (Bool) := (Par.q boolP)
def F_slices_isNaN_int : SpecT := specF 0 zr127 1 [] (fun s => T_slices_isNaN_int s) default qr_slices_isNaN_int 1 []
theorem ok_slices_isNaN_int : SpecOk Tryz.prog 141 (F_slices_isNaN_int).spec :=
  specF_ok (A := za127) zh127 Facts.mix Tryz.func141 (c := zc127) (by kernel_rfl) (Lc := 0) trivial zr127 1 2 [] (fun s => T_slices_isNaN_int s) default qr_slices_isNaN_int 1 [] [] (by decide) (by kernel_rfl) (by rfl) (by decide) (by decide) (by rfl)
    (by rintro a0; kernel_rfl)

noncomputable def zc128 : Code := Tryz.f99.body.getD .skip
def zv128 : List (List Nat) := [[0, 1], [0, 1, 6], [0, 1, 6, 7, 8], [0, 1, 6, 7, 8, 15], [0, 1, 6, 7, 8, 9], [0, 1, 6, 7, 8, 9, 27], [0, 1, 6, 7, 8], [0, 1, 6, 7, 8], [4, 5]]
noncomputable def zy128 : EnvT := ⟨Tryz.prog, lookT [(140, F_cmp_Less_int), (141, F_slices_isNaN_int)]⟩
theorem zh128 : (zy128).Ok := lookT_ok ⟨ok_cmp_Less_int, ok_slices_isNaN_int, trivial⟩
def T_slices_BinarySearch_int_l1 (x0 : (List Int)) (x1 : Int) (x2 : Int) (x3 : Int) (x4 : Int) : Tr (((List Int) × Int × Int × Int × Int) ⊕ ((List Int) × Int × Int × Int)) :=
  (.ite (decide (x3 < x4))
    (.guard ((0 : Int) ≤ 1)
    (.guard ((0 : Int) ≤ (IntKind.i64.wrap (Int.fdiv (IntKind.u64.wrap (IntKind.i64.wrap (x3 + x4))) (2 ^ 1))) ∧ (IntKind.i64.wrap (Int.fdiv (IntKind.u64.wrap (IntKind.i64.wrap (x3 + x4))) (2 ^ 1))) < ((Sl.len (.ints x0) : Nat) : Int))
    (.bind (sh_cmp_Less_int (x0.getD ((IntKind.i64.wrap (Int.fdiv (IntKind.u64.wrap (IntKind.i64.wrap (x3 + x4))) (2 ^ 1))).toNat) 0) x1) fun v1 =>
    (.ite (v1)
      (.leaf (.inl (x0, x1, x2, IntKind.i64.wrap ((IntKind.i64.wrap (Int.fdiv (IntKind.u64.wrap (IntKind.i64.wrap (x3 + x4))) (2 ^ 1))) + 1), x4)))
      (.leaf (.inl (x0, x1, x2, x3, IntKind.i64.wrap (Int.fdiv (IntKind.u64.wrap (IntKind.i64.wrap (x3 + x4))) (2 ^ 1)))))))))
    (.leaf (.inr (x0, x1, x2, x3))))
def sh_slices_BinarySearch_int_l1 (x0 : (List Int)) (x1 : Int) (x2 : Int) (x3 : Int) (x4 : Int) : Option ((List Int) × Int × Int × Int) := iter (fun s : (List Int) × Int × Int × Int × Int => (T_slices_BinarySearch_int_l1 s.1 s.2.1 s.2.2.1 s.2.2.2.1 s.2.2.2.2).run) (x0, x1, x2, x3, x4)
def za128a : Ann := ⟨[], [], [], zv128, []⟩
def zq128a : EndD ((List Int) × Int × Int × Int × Int) := ⟨(LQ.seq (Par.q intsP) (LQ.seq (Par.q intP) (LQ.seq (Par.q intP) (LQ.seq (Par.q intP) (Par.q intP))))), ⟨[0, 1, 6, 7, 8], [.pub 0, .nilsl 0 (.ints [])]⟩, []⟩
def zq128ae0 : EndD ((List Int) × Int × Int × Int) := ⟨(LQ.seq (Par.q intsP) (LQ.seq (Par.q intP) (LQ.seq (Par.q intP) (Par.q intP)))), ⟨[0, 1, 6, 7], [.pub 0, .nilsl 0 (.ints [])]⟩, []⟩
def zl128a : St → Option LR := L1 54 2 0 zq128a (.exit 0) zq128ae0 (fun s => T_slices_BinarySearch_int_l1 s.1 s.2.1 s.2.2.1 s.2.2.2.1 s.2.2.2.2)
theorem zk128a : PieceOk (zy128).env 0 (sub zc128 [0, 0, 1, 1, 1]) zl128a :=
  loop1 (A := za128a) zh128 Facts.mix trivial (k := loopB (sub zc128 [0, 0, 1, 1, 1])) (by kernel_rfl) rfl (by rintro ⟨x0, x1, x2, x3, x4⟩; kernel_rfl)
def za128 : Ann := ⟨[([0, 0, 1, 1, 1], zl128a)], [], [], zv128, []⟩
def T_slices_BinarySearch_int (a0 : (List Int)) (a1 : Int) : Tr (Int × Bool) :=
  (.bind (sh_slices_BinarySearch_int_l1 a0 a1 ((a0.length : Nat) : Int) 0 ((a0.length : Nat) : Int)) fun v2 =>
  (.guard (((decide (v2.2.2.2 < v2.2.2.1)) = true → ((0 : Int) ≤ v2.2.2.2 ∧ v2.2.2.2 < ((Sl.len (.ints v2.1) : Nat) : Int)) ∧ True))
  (.guard ((((v2.1.getD v2.2.2.2.toNat 0) == v2.2.1) = false → ((decide (v2.2.2.2 < v2.2.2.1)) = true → ((0 : Int) ≤ v2.2.2.2 ∧ v2.2.2.2 < ((Sl.len (.ints v2.1) : Nat) : Int)) ∧ True)))
  (.guard ((((v2.1.getD v2.2.2.2.toNat 0) == v2.2.1) = false → ((decide (v2.2.2.2 < v2.2.2.1)) = true → ((sh_slices_isNaN_int (v2.1.getD v2.2.2.2.toNat 0)).isSome = true) ∧ True)))
  (.guard ((((sh_slices_isNaN_int (v2.1.getD v2.2.2.2.toNat 0)).getD default) = true → (((v2.1.getD v2.2.2.2.toNat 0) == v2.2.1) = false → ((decide (v2.2.2.2 < v2.2.2.1)) = true → ((sh_slices_isNaN_int v2.2.1).isSome = true) ∧ True))))
  (.leaf (v2.2.2.2, (decide (v2.2.2.2 < v2.2.2.1)) && (((v2.1.getD v2.2.2.2.toNat 0) == v2.2.1) || (((sh_slices_isNaN_int (v2.1.getD v2.2.2.2.toNat 0)).getD default) && ((sh_slices_isNaN_int v2.2.1).getD default))))))))))
def sh_slices_BinarySearch_int (a0 : (List Int)) (a1 : Int) : Option (Int × Bool) := (T_slices_BinarySearch_int a0 a1).run
def zr128 : LQ ((List Int) × Int) := (LQ.seq (Par.q intsP) (Par.q intP))
def qr_slices_BinarySearch_int : LQ (Int × Bool) := (LQ.seq (Par.q intP) (Par.q boolP))
def F_slices_BinarySearch_int : SpecT := specF 0 zr128 2 [] (fun s => T_slices_BinarySearch_int s.1 s.2) default qr_slices_BinarySearch_int 2 []
theorem ok_slices_BinarySearch_int : SpecOk Tryz.prog 99 (F_slices_BinarySearch_int).spec :=
  specF_ok (A := za128) zh128 Facts.mix Tryz.func99 (c := zc128) (by kernel_rfl) (Lc := 0) ⟨zk128a, trivial⟩ zr128 2 2 [] (fun s => T_slices_BinarySearch_int s.1 s.2) default qr_slices_BinarySearch_int 2 [] [] (by decide) (by kernel_rfl) (by rfl) (by decide) (by decide) (by rfl)
    (by rintro ⟨a0, a1⟩; kernel_rfl)

noncomputable def zc129 : Code := Tryz.f45.body.getD .skip
def zv129 : List (List Nat) := [[0, 3], [0, 3, 5], [0, 3, 5, 6], [0, 3, 5, 6, 28], [0, 3, 5, 6, 28, 29], [], [0, 3, 5, 6, 28, 44], [0, 3, 5, 6, 48], [0, 3, 6, 7, 8], [0, 3, 6, 7, 62], [4], [0, 3, 6], [3, 6], [3, 6, 9, 10], [3, 6, 9, 93], [], [0, 3, 5, 6, 108], [0, 3, 6, 112], [0, 3], [], [4]]
noncomputable def zy129 : EnvT := ⟨Tryz.prog, lookT [(81, F_stake_Release), (97, F_meter_Take), (98, F_stake_Jail), (99, F_slices_BinarySearch_int), (101, F_slices_Clone_int), (100, F_slices_Insert_int), (60, F_stake_Slash), (61, F_stake_Bury)]⟩
theorem zh129 : (zy129).Ok := lookT_ok ⟨ok_stake_Release, ok_meter_Take, ok_stake_Jail, ok_slices_BinarySearch_int, ok_slices_Clone_int, ok_slices_Insert_int, ok_stake_Slash, ok_stake_Bury, trivial⟩
def za129 : Ann := ⟨[], [], [], zv129, []⟩
def T_provider_deal (a0 : Asked) (a1 : Provider) : Tr (Bool × Provider) :=
  (.guard ((0 : Int) ≤ a0.P.V ∧ (a0.P.V : Int) < 6)
  (.guard ((0 : Int) ≤ a0.C ∧ (a0.C : Int) < 2)
  (.ite (a0.P.Kind == 2)
    (.guard ((sh_stake_Release a1.Stake a0.C a0.P.Id).isSome = true)
    (.leaf (true, { (a1 : Provider) with Stake := ((sh_stake_Release a1.Stake a0.C a0.P.Id).getD default) })))
    (.ite (a0.P.Kind == 3)
      (.ite (!(a1.Stake.Validators.Jailed.get a0.P.V))
        (.guard ((100 : Int) ≠ 0)
        (.guard ((sh_meter_Take a1.Meter (if (IntKind.i64.wrap (Int.tdiv (a1.Stake.Validators.Tokens.get a0.P.V) 100)) > 1 then (IntKind.i64.wrap (Int.tdiv (a1.Stake.Validators.Tokens.get a0.P.V) 100)) else 1)).isSome = true)
        (.ite (!(((sh_meter_Take a1.Meter (if (IntKind.i64.wrap (Int.tdiv (a1.Stake.Validators.Tokens.get a0.P.V) 100)) > 1 then (IntKind.i64.wrap (Int.tdiv (a1.Stake.Validators.Tokens.get a0.P.V) 100)) else 1)).getD default).2))
          (.leaf (false, a1))
          (.guard ((sh_stake_Jail a1.Stake a0.P.V).isSome = true)
          (.guard ((sh_slices_BinarySearch_int (a1.Links.Done.get a0.C) a0.P.V).isSome = true)
          (.ite (!(((sh_slices_BinarySearch_int (a1.Links.Done.get a0.C) a0.P.V).getD default).2))
            (.guard ((sh_slices_Clone_int (a1.Links.Done.get a0.C)).isSome = true)
            (.guard ((sh_slices_Insert_int ((sh_slices_Clone_int (a1.Links.Done.get a0.C)).getD default) (((sh_slices_BinarySearch_int (a1.Links.Done.get a0.C) a0.P.V).getD default).1) [a0.P.V]).isSome = true)
            (.leaf (true, { (a1 : Provider) with Stake := (((sh_stake_Jail a1.Stake a0.P.V).getD default).1), Links := { (a1.Links : Links) with Done := (a1.Links.Done.set a0.C ((sh_slices_Insert_int ((sh_slices_Clone_int (a1.Links.Done.get a0.C)).getD default) (((sh_slices_BinarySearch_int (a1.Links.Done.get a0.C) a0.P.V).getD default).1) [a0.P.V]).getD default)) }, Meter := (((sh_meter_Take a1.Meter (if (IntKind.i64.wrap (Int.tdiv (a1.Stake.Validators.Tokens.get a0.P.V) 100)) > 1 then (IntKind.i64.wrap (Int.tdiv (a1.Stake.Validators.Tokens.get a0.P.V) 100)) else 1)).getD default).1) }))))
            (.leaf (true, { (a1 : Provider) with Stake := (((sh_stake_Jail a1.Stake a0.P.V).getD default).1), Meter := (((sh_meter_Take a1.Meter (if (IntKind.i64.wrap (Int.tdiv (a1.Stake.Validators.Tokens.get a0.P.V) 100)) > 1 then (IntKind.i64.wrap (Int.tdiv (a1.Stake.Validators.Tokens.get a0.P.V) 100)) else 1)).getD default).1) }))))))))
        (.guard ((sh_slices_BinarySearch_int (a1.Links.Done.get a0.C) a0.P.V).isSome = true)
        (.ite (!(((sh_slices_BinarySearch_int (a1.Links.Done.get a0.C) a0.P.V).getD default).2))
          (.guard ((sh_slices_Clone_int (a1.Links.Done.get a0.C)).isSome = true)
          (.guard ((sh_slices_Insert_int ((sh_slices_Clone_int (a1.Links.Done.get a0.C)).getD default) (((sh_slices_BinarySearch_int (a1.Links.Done.get a0.C) a0.P.V).getD default).1) [a0.P.V]).isSome = true)
          (.leaf (true, { (a1 : Provider) with Links := { (a1.Links : Links) with Done := (a1.Links.Done.set a0.C ((sh_slices_Insert_int ((sh_slices_Clone_int (a1.Links.Done.get a0.C)).getD default) (((sh_slices_BinarySearch_int (a1.Links.Done.get a0.C) a0.P.V).getD default).1) [a0.P.V]).getD default)) } }))))
          (.leaf (true, a1)))))
      (.ite (a0.P.Kind == 4)
        (.ite (!(a1.Stake.Validators.Dead.get a0.P.V))
          (.guard ((sh_stake_Slash a1.Stake a0.P.V (if (a1.Links.Base.get a0.C) > a0.P.Id then (a1.Links.Base.get a0.C) else a0.P.Id) 50).isSome = true)
          (.guard ((sh_stake_Bury (((sh_stake_Slash a1.Stake a0.P.V (if (a1.Links.Base.get a0.C) > a0.P.Id then (a1.Links.Base.get a0.C) else a0.P.Id) 50).getD default).1) a0.P.V).isSome = true)
          (.leaf (true, { (a1 : Provider) with Stake := (((sh_stake_Bury (((sh_stake_Slash a1.Stake a0.P.V (if (a1.Links.Base.get a0.C) > a0.P.Id then (a1.Links.Base.get a0.C) else a0.P.Id) 50).getD default).1) a0.P.V).getD default).1) }))))
          (.leaf (true, a1)))
        (.leaf (true, a1)))))))
def sh_provider_deal (a0 : Asked) (a1 : Provider) : Option (Bool × Provider) := (T_provider_deal a0 a1).run
def zr129 : LQ (Asked × Provider) := (LQ.skip (LQ.const (.ptr 0 0)) (LQ.seq (Par.q (Par.ofLP askedL)) (LP.q providerL)))
def qr_provider_deal : LQ (Bool × Provider) := (LQ.seq (Par.q boolP) (LP.q providerL))
def F_provider_deal : SpecT := specF 1 zr129 2 [.cells 47 97] (fun s => T_provider_deal s.1 s.2) default qr_provider_deal 1 [.cells 47 97]
theorem ok_provider_deal : SpecOk Tryz.prog 45 (F_provider_deal).spec :=
  specF_ok (A := za129) zh129 Facts.mix Tryz.func45 (c := zc129) (by kernel_rfl) (Lc := 1) trivial zr129 2 9 [.cells 47 97] (fun s => T_provider_deal s.1 s.2) default qr_provider_deal 1 [.cells 47 97] [.pubN 0] (by decide) (by kernel_rfl) (by rfl) (by decide) (by decide) (by rfl)
    (by rintro ⟨a0, a1⟩; kernel_rfl)

noncomputable def zc130 : Code := Tryz.f12.body.getD .skip
def zv130 : List (List Nat) := [[1, 2, 4], [1, 2, 4, 27], [4, 5, 6], [1, 2, 4], [1, 2, 4], [1, 2, 4, 7], [1, 2, 4, 7, 8], [1, 2, 4, 7, 8, 44, 45, 46], [1, 2, 4, 7, 8, 44, 45, 46, 47], [1, 2, 4, 7, 8, 10, 44, 45, 46], [1, 2, 4, 7, 8, 10, 44, 45, 46, 58], [1, 2, 4, 7, 8, 10, 44, 45, 46], [1, 2, 4, 7, 8, 44, 45, 46], [1, 2, 4, 7, 8, 44, 45, 46], [1, 2, 4], [1, 2, 4, 11, 12, 13], [1, 2, 4, 11, 12, 13, 78], [4, 5, 6], [1, 2, 4, 12], [1, 2, 4, 12], [1, 2, 4, 12, 87], [1, 2, 4, 12, 87, 88], [1, 2, 4, 12, 14, 87], [1, 2, 4, 12, 87], [1, 2, 4, 12, 87], [4, 5, 6]]
noncomputable def zy130 : EnvT := ⟨Tryz.prog, lookT [(22, F_provider_Good), (44, F_stake_All), (43, F_meter_Tick), (45, F_provider_deal), (46, F_stake_Pay), (25, F_stake_Set), (47, F_provider_tell)]⟩
theorem zh130 : (zy130).Ok := lookT_ok ⟨ok_provider_Good, ok_stake_All, ok_meter_Tick, ok_provider_deal, ok_stake_Pay, ok_stake_Set, ok_provider_tell, trivial⟩
def T_provider_End_l1 (x0 : Int) (x1 : (List Asked)) (x2 : Int) (x3 : Int) (x4 : Provider) (x5 : Provider) (x6 : (A2 Bool)) (x7 : (List Asked)) : Tr ((Int × (List Asked) × Int × Int × Provider × Provider × (A2 Bool) × (List Asked)) ⊕ (Int × Provider × Provider × (List Asked))) :=
  (.ite (decide (x3 < x2))
    (.guard ((0 : Int) ≤ x3 ∧ x3 < ((Sl.len (.asked x1) : Nat) : Int))
    (.guard ((0 : Int) ≤ ((x1.getD x3.toNat default).C) ∧ (((x1.getD x3.toNat default).C) : Int) < 2)
    (.ite (x6.get ((x1.getD x3.toNat default).C))
      (.ite ((true : Bool))
        (.ite ((true : Bool))
          (.ite ((true : Bool))
            (.guard ((0 : Int) ≤ ((x1.getD x3.toNat default).C) ∧ (((x1.getD x3.toNat default).C) : Int) < 2)
            (.guard ((Sl.len (.asked x7) + Sl.len (.asked [(x1.getD x3.toNat default)])) * 88 ≤ 140737488355328)
            (.leaf (.inl (x0, x1, x2, IntKind.i64.wrap (x3 + 1), x4, x5, (x6.set ((x1.getD x3.toNat default).C) true), x7 ++ [(x1.getD x3.toNat default)])))))
            (.leaf (.inl (x0, x1, x2, IntKind.i64.wrap (x3 + 1), x4, x5, x6, x7))))
          .fail)
        .fail)
      (.bind (sh_provider_deal (x1.getD x3.toNat default) x4) fun v2 =>
      (.ite ((false : Bool) || (!v2.1))
        (.guard ((0 : Int) ≤ ((x1.getD x3.toNat default).C) ∧ (((x1.getD x3.toNat default).C) : Int) < 2)
        (.guard ((Sl.len (.asked x7) + Sl.len (.asked [(x1.getD x3.toNat default)])) * 88 ≤ 140737488355328)
        (.leaf (.inl (x0, x1, x2, IntKind.i64.wrap (x3 + 1), v2.2, x5, (x6.set ((x1.getD x3.toNat default).C) true), x7 ++ [(x1.getD x3.toNat default)])))))
        (.leaf (.inl (x0, x1, x2, IntKind.i64.wrap (x3 + 1), v2.2, x5, x6, x7))))))))
    (.leaf (.inr (x0, x4, x5, x7))))
def sh_provider_End_l1 (x0 : Int) (x1 : (List Asked)) (x2 : Int) (x3 : Int) (x4 : Provider) (x5 : Provider) (x6 : (A2 Bool)) (x7 : (List Asked)) : Option (Int × Provider × Provider × (List Asked)) := iter (fun s : Int × (List Asked) × Int × Int × Provider × Provider × (A2 Bool) × (List Asked) => (T_provider_End_l1 s.1 s.2.1 s.2.2.1 s.2.2.2.1 s.2.2.2.2.1 s.2.2.2.2.2.1 s.2.2.2.2.2.2.1 s.2.2.2.2.2.2.2).run) (x0, x1, x2, x3, x4, x5, x6, x7)
def za130a : Ann := ⟨[], [], [], zv130, [(23, [9700002])]⟩
def zq130a : EndD (Int × (List Asked) × Int × Int × Provider × Provider × (A2 Bool) × (List Asked)) := ⟨(LQ.seq (Par.q intP) (LQ.skip (LQ.const (.ptr 0 0)) (LQ.skip (LQ.const (.ptr 1 0)) (LQ.skip (LQ.const (.own 3)) (LQ.skip (LQ.const (.ptr 2 0)) (LQ.seq (Par.q askedP) (LQ.seq (Par.q intP) (LQ.seq (Par.q intP) (LQ.seq (LP.q providerL) (LQ.seq (LP.q providerL) (LQ.seq (LP.q (a2L (LP.one boolP))) (Par.q askedP)))))))))))), ⟨[1, 2, 4, 7, 8, 44, 45, 46], [.nilown 7 83 (.asked []), .pub 44, .nilsl 44 (.asked [])]⟩, [.cells 47 97, .cells 47 97, .cells 90 2, .rows 83]⟩
def zq130ae0 : EndD (Int × Provider × Provider × (List Asked)) := ⟨(LQ.seq (Par.q intP) (LQ.skip (LQ.const (.ptr 0 0)) (LQ.skip (LQ.const (.ptr 1 0)) (LQ.skip (LQ.const (.own 2)) (LQ.seq (LP.q providerL) (LQ.seq (LP.q providerL) (Par.q askedP))))))), ⟨[1, 2, 4, 7], [.nilown 7 83 (.asked [])]⟩, [.cells 47 97, .cells 47 97, .rows 83]⟩
def zl130a : St → Option LR := L1 96 9 0 zq130a (.exit 0) zq130ae0 (fun s => T_provider_End_l1 s.1 s.2.1 s.2.2.1 s.2.2.2.1 s.2.2.2.2.1 s.2.2.2.2.2.1 s.2.2.2.2.2.2.1 s.2.2.2.2.2.2.2)
theorem zk130a : PieceOk (zy130).env 0 (sub zc130 [0, 1, 0, 1, 1, 1, 1, 1, 1]) zl130a :=
  loop1 (A := za130a) zh130 Facts.mix trivial (k := loopB (sub zc130 [0, 1, 0, 1, 1, 1, 1, 1, 1])) (by kernel_rfl) rfl (by rintro ⟨x0, x1, x2, x3, x4, x5, x6, x7⟩; kernel_rfl)
def T_provider_End_l2 (x0 : Int) (x1 : (List Int)) (x2 : Int) (x3 : Provider) (x4 : Provider) : Tr ((Int × (List Int) × Int × Provider × Provider) ⊕ ((List Int) × Provider × Provider)) :=
  (.ite (decide (x2 < 2))
    (.bind (sh_provider_tell x2 x0 x3) fun v6 =>
    (.leaf (.inl (x0, x1, IntKind.i64.wrap (x2 + 1), v6, x4))))
    (.leaf (.inr (x1, x3, x4))))
def sh_provider_End_l2 (x0 : Int) (x1 : (List Int)) (x2 : Int) (x3 : Provider) (x4 : Provider) : Option ((List Int) × Provider × Provider) := iter (fun s : Int × (List Int) × Int × Provider × Provider => (T_provider_End_l2 s.1 s.2.1 s.2.2.1 s.2.2.2.1 s.2.2.2.2).run) (x0, x1, x2, x3, x4)
def za130b : Ann := ⟨[], [], [], zv130, [(23, [9700002])]⟩
def zq130b : EndD (Int × (List Int) × Int × Provider × Provider) := ⟨(LQ.seq (Par.q intP) (LQ.skip (LQ.const (.ptr 0 0)) (LQ.skip (LQ.const (.ptr 1 0)) (LQ.seq (Par.q intsP) (LQ.seq (Par.q intP) (LQ.seq (LP.q providerL) (LP.q providerL))))))), ⟨[1, 2, 4, 12, 87], [.pubC 2 96, .pub 12, .nilsl 12 (.ints [])]⟩, [.cells 47 97, .cells 47 97]⟩
def zq130be0 : EndD ((List Int) × Provider × Provider) := ⟨(LQ.skip (LQ.const (.ptr 0 0)) (LQ.skip (LQ.const (.ptr 1 0)) (LQ.seq (Par.q intsP) (LQ.seq (LP.q providerL) (LP.q providerL))))), ⟨[2, 4, 12], [.pubC 2 96, .pub 12, .nilsl 12 (.ints [])]⟩, [.cells 47 97, .cells 47 97]⟩
def zl130b : St → Option LR := L1 96 9 0 zq130b (.exit 2) zq130be0 (fun s => T_provider_End_l2 s.1 s.2.1 s.2.2.1 s.2.2.2.1 s.2.2.2.2)
theorem zk130b : PieceOk (zy130).env 0 (sub zc130 [0, 1, 0, 1, 1, 1, 1, 1, 1, 1, 1, 1, 1, 1, 1]) zl130b :=
  loop1 (A := za130b) zh130 Facts.mix trivial (k := loopB (sub zc130 [0, 1, 0, 1, 1, 1, 1, 1, 1, 1, 1, 1, 1, 1, 1])) (by kernel_rfl) rfl (by rintro ⟨x0, x1, x2, x3, x4⟩; kernel_rfl)
def za130 : Ann := ⟨[([0, 1, 0, 1, 1, 1, 1, 1, 1], zl130a), ([0, 1, 0, 1, 1, 1, 1, 1, 1, 1, 1, 1, 1, 1, 1], zl130b)], [], [], zv130, [(23, [9700002])]⟩
def T_provider_End (a0 : Provider) (a1 : Int) : Tr (Provider × (List Int) × Int) :=
  (.bind (sh_provider_Good a0) fun v1 =>
  (.ite (((!v1) || (decide (a1 < a0.Time))) || (decide (a1 > 1099511627776)))
    (.leaf (a0, [], 2))
    (.guard ((sh_stake_All a0.Set).isSome = true)
    (.guard ((sh_meter_Tick a0.Meter ((sh_stake_All a0.Set).getD default) a1).isSome = true)
    (.bind (sh_provider_End_l1 a1 a0.Queue ((a0.Queue.length : Nat) : Int) 0 ({ (a0 : Provider) with Height := IntKind.i64.wrap (a0.Height + 1), Time := a1, Meter := ((sh_meter_Tick a0.Meter ((sh_stake_All a0.Set).getD default) a1).getD default) }) (default : Provider) (⟨false, false⟩ : (A2 Bool)) []) fun v3 =>
    (.bind (sh_stake_Pay v3.2.1.Stake v3.1) fun v4 =>
    (.ite (v4.2.2 != 0)
      (.leaf ({ (v3.2.1 : Provider) with Queue := v3.2.2.2 }, [], v4.2.2))
      (.bind (sh_stake_Set v4.1) fun v5 =>
      (.bind (sh_provider_End_l2 v3.1 v4.2.1 0 ({ (v3.2.1 : Provider) with Stake := v4.1, Set := v5, Queue := v3.2.2.2 }) v3.2.2.1) fun v7 =>
      (.leaf (v7.2.1, v7.1, 0)))))))))))
def sh_provider_End (a0 : Provider) (a1 : Int) : Option (Provider × (List Int) × Int) := (T_provider_End a0 a1).run
def zr130 : LQ (Provider × Int) := (LQ.seq (Par.q (Par.ofLP providerL)) (Par.q intP))
def qr_provider_End : LQ (Provider × (List Int) × Int) := (LQ.seq (Par.q (Par.ofLP providerL)) (LQ.seq (Par.q intsP) (Par.q intP)))
def F_provider_End : SpecT := specF 0 zr130 2 [] (fun s => T_provider_End s.1 s.2) default qr_provider_End 3 []
theorem ok_provider_End : SpecOk Tryz.prog 12 (F_provider_End).spec :=
  specF_ok (A := za130) zh130 Facts.mix Tryz.func12 (c := zc130) (by kernel_rfl) (Lc := 0) ⟨zk130a, zk130b, trivial⟩ zr130 2 9 [] (fun s => T_provider_End s.1 s.2) default qr_provider_End 3 [] [.pubB 4, .pub 5] (by decide) (by kernel_rfl) (by rfl) (by decide) (by decide) (by rfl)
    (by rintro ⟨a0, a1⟩; kernel_rfl)

end
end Go.Proofs.YtknbejjfejdppaaGreat.Ab
