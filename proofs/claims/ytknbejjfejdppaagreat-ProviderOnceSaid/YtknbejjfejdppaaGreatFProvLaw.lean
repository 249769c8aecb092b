/-
  The functions, each by its tree.
-/
import Derived.Test.YtknbejjfejdppaaGreatFacts
import Derived.Test.YtknbejjfejdppaaGreatAbStructs
import Derived.Test.YtknbejjfejdppaaGreatAbFun
import Derived.Test.YtknbejjfejdppaaGreatFProv
import Derived.Test.YtknbejjfejdppaaGreatFRefP
import Derived.Test.YtknbejjfejdppaaGreatFLine
import Derived.Test.YtknbejjfejdppaaGreatFCodec
import Derived.Test.YtknbejjfejdppaaGreatFStakeA
import Derived.Test.YtknbejjfejdppaaGreatFStakeB
import Derived.Test.YtknbejjfejdppaaGreatFRefA
import Derived.Test.YtknbejjfejdppaaGreatFRefB
import Derived.Test.YtknbejjfejdppaaGreatFBank
namespace Go.Proofs.YtknbejjfejdppaaGreat.Ab
open Go Go.RowKit
set_option maxRecDepth 100000
set_option linter.unusedVariables false
set_option linter.unusedSimpArgs false
noncomputable section

noncomputable def zc145 : Code := Tryz.f16.body.getD .skip
def zv145 : List (List Nat) := [[], [1, 2], [1, 2, 3, 4], [0]]
noncomputable def zy145 : EnvT := ⟨Tryz.prog, lookT [(38, F_provider_New), (33, F_provider_Delegate), (12, F_provider_End), (22, F_provider_Good)]⟩
theorem zh145 : (zy145).Ok := lookT_ok ⟨ok_provider_New, ok_provider_Delegate, ok_provider_End, ok_provider_Good, trivial⟩
def za145 : Ann := ⟨[], [], [], zv145, []⟩
def T_law_provides  : Tr (Bool) :=
  (.bind (sh_provider_New) fun v1 =>
  (.bind (sh_provider_Delegate v1 0 0 500) fun v2 =>
  (.bind (sh_provider_End v2.1 3) fun v3 =>
  (.guard (((((((v2.2 == 0) && (v3.2.2 == 0)) && (v3.1.Height == 1)) && (((v3.2.1.length : Nat) : Int) == 0)) && (((v3.1.Set.length : Nat) : Int) == 1)) = true → ((sh_provider_Good v3.1).isSome = true) ∧ True))
  (.leaf ((((((v2.2 == 0) && (v3.2.2 == 0)) && (v3.1.Height == 1)) && (((v3.2.1.length : Nat) : Int) == 0)) && (((v3.1.Set.length : Nat) : Int) == 1)) && ((sh_provider_Good v3.1).getD default)))))))
def sh_law_provides  : Option (Bool) := (T_law_provides ).run
def zr145 : LQ (Unit) := LQ.nil
def qr_law_provides : LQ (Bool) := (Par.q boolP)
def F_law_provides : SpecT := specF 0 zr145 0 [] (fun s => T_law_provides ) default qr_law_provides 1 []
theorem ok_law_provides : SpecOk Tryz.prog 16 (F_law_provides).spec :=
  specF_ok (A := za145) zh145 Facts.mix Tryz.func16 (c := zc145) (by kernel_rfl) (Lc := 0) trivial zr145 0 3 [] (fun s => T_law_provides ) default qr_law_provides 1 [] [] (by decide) (by kernel_rfl) (by rfl) (by decide) (by decide) (by rfl)
    (by rintro _; kernel_rfl)

noncomputable def zc146 : Code := Tryz.f21.body.getD .skip
def zv146 : List (List Nat) := [[], [1, 2], [1, 2, 3, 4], [0]]
noncomputable def zy146 : EnvT := ⟨Tryz.prog, lookT [(38, F_provider_New), (33, F_provider_Delegate), (12, F_provider_End), (22, F_provider_Good)]⟩
theorem zh146 : (zy146).Ok := lookT_ok ⟨ok_provider_New, ok_provider_Delegate, ok_provider_End, ok_provider_Good, trivial⟩
def za146 : Ann := ⟨[], [], [], zv146, []⟩
def T_keep_provides  : Tr (Bool) :=
  (.bind (sh_provider_New) fun v1 =>
  (.bind (sh_provider_Delegate v1 0 0 500) fun v2 =>
  (.bind (sh_provider_End v2.1 3) fun v3 =>
  (.guard (((((((v2.2 == 0) && (v3.2.2 == 0)) && (v3.1.Height == 1)) && (((v3.2.1.length : Nat) : Int) == 0)) && (((v3.1.Set.length : Nat) : Int) == 1)) = true → ((sh_provider_Good v3.1).isSome = true) ∧ True))
  (.leaf ((((((v2.2 == 0) && (v3.2.2 == 0)) && (v3.1.Height == 1)) && (((v3.2.1.length : Nat) : Int) == 0)) && (((v3.1.Set.length : Nat) : Int) == 1)) && ((sh_provider_Good v3.1).getD default)))))))
def sh_keep_provides  : Option (Bool) := (T_keep_provides ).run
def zr146 : LQ (Unit) := LQ.nil
def qr_keep_provides : LQ (Bool) := (Par.q boolP)
def F_keep_provides : SpecT := specF 0 zr146 0 [] (fun s => T_keep_provides ) default qr_keep_provides 1 []
theorem ok_keep_provides : SpecOk Tryz.prog 21 (F_keep_provides).spec :=
  specF_ok (A := za146) zh146 Facts.mix Tryz.func21 (c := zc146) (by kernel_rfl) (Lc := 0) trivial zr146 0 3 [] (fun s => T_keep_provides ) default qr_keep_provides 1 [] [] (by decide) (by kernel_rfl) (by rfl) (by decide) (by decide) (by rfl)
    (by rintro _; kernel_rfl)

noncomputable def zc151 : Code := Tryz.f8.body.getD .skip
def zv151 : List (List Nat) := [[1, 2], [1, 2, 5, 6], [1, 2, 5, 6, 7, 8], [4]]
noncomputable def zy151 : EnvT := ⟨Tryz.prog, lookT [(11, F_ref_CopyProvider), (29, F_provider_Begin), (30, F_ref_Begin), (15, F_ref_SameProvider), (31, F_provider_Remove), (32, F_ref_Remove), (16, F_law_provides)]⟩
theorem zh151 : (zy151).Ok := lookT_ok ⟨ok_ref_CopyProvider, ok_provider_Begin, ok_ref_Begin, ok_ref_SameProvider, ok_provider_Remove, ok_ref_Remove, ok_law_provides, trivial⟩
def za151 : Ann := ⟨[], [], [], zv151, []⟩
def T_law_ProviderLinks (a0 : Provider) (a1 : Int) : Tr (Bool) :=
  (.bind (sh_ref_CopyProvider a0) fun v1 =>
  (.bind (sh_provider_Begin v1 a1) fun v2 =>
  (.bind (sh_ref_Begin a0 a1) fun v3 =>
  (.guard (((v2.2 == v3.2) = true → ((sh_ref_SameProvider v2.1 v3.1).isSome = true) ∧ True))
  (.guard ((((v2.2 == v3.2) && ((sh_ref_SameProvider v2.1 v3.1).getD default)) = true → ((sh_ref_CopyProvider a0).isSome = true) ∧ True))
  (.guard ((((v2.2 == v3.2) && ((sh_ref_SameProvider v2.1 v3.1).getD default)) = true → ((sh_provider_Remove ((sh_ref_CopyProvider a0).getD default) a1).isSome = true) ∧ True))
  (.guard ((((v2.2 == v3.2) && ((sh_ref_SameProvider v2.1 v3.1).getD default)) = true → ((sh_ref_Remove a0 a1).isSome = true) ∧ True))
  (.guard ((((v2.2 == v3.2) && ((sh_ref_SameProvider v2.1 v3.1).getD default)) = true → ((sh_ref_SameProvider ((sh_provider_Remove ((sh_ref_CopyProvider a0).getD default) a1).getD default) ((sh_ref_Remove a0 a1).getD default)).isSome = true) ∧ True))
  (.guard (((((v2.2 == v3.2) && ((sh_ref_SameProvider v2.1 v3.1).getD default)) && ((sh_ref_SameProvider ((sh_provider_Remove ((sh_ref_CopyProvider a0).getD default) a1).getD default) ((sh_ref_Remove a0 a1).getD default)).getD default)) = true → ((sh_law_provides).isSome = true) ∧ True))
  (.leaf ((((v2.2 == v3.2) && ((sh_ref_SameProvider v2.1 v3.1).getD default)) && ((sh_ref_SameProvider ((sh_provider_Remove ((sh_ref_CopyProvider a0).getD default) a1).getD default) ((sh_ref_Remove a0 a1).getD default)).getD default)) && ((sh_law_provides).getD default))))))))))))
def sh_law_ProviderLinks (a0 : Provider) (a1 : Int) : Option (Bool) := (T_law_ProviderLinks a0 a1).run
def zr151 : LQ (Provider × Int) := (LQ.seq (Par.q (Par.ofLP providerL)) (Par.q intP))
def qr_law_ProviderLinks : LQ (Bool) := (Par.q boolP)
def F_law_ProviderLinks : SpecT := specF 0 zr151 2 [] (fun s => T_law_ProviderLinks s.1 s.2) default qr_law_ProviderLinks 1 []
theorem ok_law_ProviderLinks : SpecOk Tryz.prog 8 (F_law_ProviderLinks).spec :=
  specF_ok (A := za151) zh151 Facts.mix Tryz.func8 (c := zc151) (by kernel_rfl) (Lc := 0) trivial zr151 2 5 [] (fun s => T_law_ProviderLinks s.1 s.2) default qr_law_ProviderLinks 1 [] [] (by decide) (by kernel_rfl) (by rfl) (by decide) (by decide) (by rfl)
    (by rintro ⟨a0, a1⟩; kernel_rfl)

noncomputable def zc153 : Code := Tryz.f7.body.getD .skip
def zv153 : List (List Nat) := [[1, 3, 4, 6], [1, 3, 4, 6], [1, 3, 4, 6, 9, 10], [1, 3, 4, 6, 9, 10, 11, 12], [1, 3, 6, 9, 11, 45], [8], [1, 3, 6, 9, 11, 12], [3, 6, 11, 12, 13, 14], [3, 6, 11, 12, 13, 14, 62], [8], [3, 6, 11, 13, 14, 66], [8], [6, 11, 13, 16], [8]]
noncomputable def zy153 : EnvT := ⟨Tryz.prog, lookT [(28, F_codec_Encode), (19, F_provider_Hear), (21, F_keep_provides), (12, F_provider_End)]⟩
theorem zh153 : (zy153).Ok := lookT_ok ⟨ok_codec_Encode, ok_provider_Hear, ok_keep_provides, ok_provider_End, trivial⟩
def za153 : Ann := ⟨[], [], [], zv153, []⟩
def T_keep_ProviderOnce (a0 : Provider) (a1 : Int) (a2 : Packet) (a3 : Int) : Tr (Bool) :=
  (.bind (sh_codec_Encode ({ (a2 : Packet) with Kind := 4 })) fun v1 =>
  (.bind (sh_provider_Hear a0 a1 v1.1) fun v2 =>
  (.guard (((((v1.2 != 0) || (v2.2 != 0)) || (decide (((a0.Queue.length : Nat) : Int) > 0))) = false → ((sh_keep_provides).isSome = true) ∧ True))
  (.ite ((((v1.2 != 0) || (v2.2 != 0)) || (decide (((a0.Queue.length : Nat) : Int) > 0))) || (!((sh_keep_provides).getD default)))
    (.bind (sh_keep_provides) fun v3 =>
    (.leaf v3))
    (.bind (sh_provider_End v2.1 a3) fun v4 =>
    (.bind (sh_provider_Hear v4.1 a1 v1.1) fun v5 =>
    (.ite (v4.2.2 != 0)
      (.leaf (v4.2.2 == 2))
      (.ite (v5.2 != 0)
        (.leaf (v5.2 == 2))
        (.bind (sh_provider_End v5.1 a3) fun v6 =>
        (.guard (((v6.2.2 == 0) = true → ((v6.2.2 == 2) = false → ((0 : Int) ≤ a2.V ∧ (a2.V : Int) < 6) ∧ True)))
        (.guard (((v6.2.2 == 0) = true → ((v6.2.2 == 2) = false → ((0 : Int) ≤ a2.V ∧ (a2.V : Int) < 6) ∧ True)))
        (.guard ((((v6.2.2 == 2) || ((v6.2.2 == 0) && (((v6.1.Stake.Validators.Tokens.get a2.V) == (v4.1.Stake.Validators.Tokens.get a2.V)) && (((v6.1.Stake.Validators.Shares.get a2.V) == (v4.1.Stake.Validators.Shares.get a2.V)) && (((v6.1.Stake.Validators.Lost.get a2.V) == (v4.1.Stake.Validators.Lost.get a2.V)) && (((v6.1.Stake.Validators.Jailed.get a2.V) == (v4.1.Stake.Validators.Jailed.get a2.V)) && (((v6.1.Stake.Validators.Dead.get a2.V) == (v4.1.Stake.Validators.Dead.get a2.V)) && true))))))) = true → ((0 : Int) ≤ a2.V ∧ (a2.V : Int) < 6) ∧ True))
        (.leaf (((v6.2.2 == 2) || ((v6.2.2 == 0) && (((v6.1.Stake.Validators.Tokens.get a2.V) == (v4.1.Stake.Validators.Tokens.get a2.V)) && (((v6.1.Stake.Validators.Shares.get a2.V) == (v4.1.Stake.Validators.Shares.get a2.V)) && (((v6.1.Stake.Validators.Lost.get a2.V) == (v4.1.Stake.Validators.Lost.get a2.V)) && (((v6.1.Stake.Validators.Jailed.get a2.V) == (v4.1.Stake.Validators.Jailed.get a2.V)) && (((v6.1.Stake.Validators.Dead.get a2.V) == (v4.1.Stake.Validators.Dead.get a2.V)) && true))))))) && (v4.1.Stake.Validators.Dead.get a2.V)))))))))))))))
def sh_keep_ProviderOnce (a0 : Provider) (a1 : Int) (a2 : Packet) (a3 : Int) : Option (Bool) := (T_keep_ProviderOnce a0 a1 a2 a3).run
def zr153 : LQ (Provider × Int × Packet × Int) := (LQ.seq (Par.q (Par.ofLP providerL)) (LQ.seq (Par.q intP) (LQ.seq (Par.q (Par.ofLP packetL)) (Par.q intP))))
def qr_keep_ProviderOnce : LQ (Bool) := (Par.q boolP)
def F_keep_ProviderOnce : SpecT := specF 0 zr153 4 [] (fun s => T_keep_ProviderOnce s.1 s.2.1 s.2.2.1 s.2.2.2) default qr_keep_ProviderOnce 1 []
theorem ok_keep_ProviderOnce : SpecOk Tryz.prog 7 (F_keep_ProviderOnce).spec :=
  specF_ok (A := za153) zh153 Facts.mix Tryz.func7 (c := zc153) (by kernel_rfl) (Lc := 0) trivial zr153 4 6 [] (fun s => T_keep_ProviderOnce s.1 s.2.1 s.2.2.1 s.2.2.2) default qr_keep_ProviderOnce 1 [] [] (by decide) (by kernel_rfl) (by rfl) (by decide) (by decide) (by rfl)
    (by rintro ⟨a0, a1, a2, a3⟩; kernel_rfl)

noncomputable def zc154 : Code := Tryz.f10.body.getD .skip
def zv154 : List (List Nat) := [[1, 2], [1, 2, 5], [1, 2, 5, 39], [4], [1, 2, 5, 43, 44, 45], [1, 2, 5, 43, 44, 45, 46], [1, 2, 5, 7, 43, 44, 45], [1, 2, 5, 43, 44, 45, 60], [4], [1, 2, 5, 43, 44, 45], [1, 2, 5, 63, 64, 65], [1, 2, 5, 63, 64, 65, 66], [1, 2, 5, 9, 63, 64, 65], [1, 2, 5, 63, 64, 65, 72], [4], [1, 2, 5, 63, 64, 65], [1, 2, 5, 11], [1, 2, 5, 11, 13], [4]]
noncomputable def zy154 : EnvT := ⟨Tryz.prog, lookT [(31, F_provider_Remove), (22, F_provider_Good), (21, F_keep_provides), (29, F_provider_Begin), (19, F_provider_Hear)]⟩
theorem zh154 : (zy154).Ok := lookT_ok ⟨ok_provider_Remove, ok_provider_Good, ok_keep_provides, ok_provider_Begin, ok_provider_Hear, trivial⟩
def T_keep_ProviderRemoves_l1 (x0 : Int) (x1 : (List Wait)) (x2 : Int) (x3 : Int) (x4 : Provider) (x5 : Provider) : Tr ((Int × (List Wait) × Int × Int × Provider × Provider) ⊕ ((Bool) ⊕ (Int × Provider × Provider))) :=
  (.ite (decide (x3 < x2))
    (.guard ((0 : Int) ≤ x3 ∧ x3 < ((Sl.len (.waits x1) : Nat) : Int))
    (.guard ((0 : Int) ≤ x0 ∧ (x0 : Int) < 2)
    (.guard (((decide ((A2.get ⟨(x1.getD x3.toNat default).h0, (x1.getD x3.toNat default).h1⟩ x0) > 0)) = true → ((0 : Int) ≤ x0 ∧ (x0 : Int) < 2) ∧ True))
    (.ite ((decide ((A2.get ⟨(x1.getD x3.toNat default).h0, (x1.getD x3.toNat default).h1⟩ x0) > 0)) && (decide ((A2.get ⟨(x1.getD x3.toNat default).h0, (x1.getD x3.toNat default).h1⟩ x0) ≤ 1099511627776)))
      (.leaf (.inr (.inl false)))
      (.leaf (.inl (x0, x1, x2, IntKind.i64.wrap (x3 + 1), x4, x5)))))))
    (.leaf (.inr (.inr (x0, x4, x5)))))
def sh_keep_ProviderRemoves_l1 (x0 : Int) (x1 : (List Wait)) (x2 : Int) (x3 : Int) (x4 : Provider) (x5 : Provider) : Option ((Bool) ⊕ (Int × Provider × Provider)) := iter (fun s : Int × (List Wait) × Int × Int × Provider × Provider => (T_keep_ProviderRemoves_l1 s.1 s.2.1 s.2.2.1 s.2.2.2.1 s.2.2.2.2.1 s.2.2.2.2.2).run) (x0, x1, x2, x3, x4, x5)
def za154a : Ann := ⟨[], [], [], zv154, []⟩
def zq154a : EndD (Int × (List Wait) × Int × Int × Provider × Provider) := ⟨(LQ.seq (Par.q intP) (LQ.skip (LQ.const (.ptr 0 0)) (LQ.skip (LQ.const (.ptr 1 0)) (LQ.seq (Par.q waitsP) (LQ.seq (Par.q intP) (LQ.seq (Par.q intP) (LQ.seq (LP.q providerL) (LP.q providerL)))))))), ⟨[1, 2, 5, 43, 44, 45], [.pub 43, .nilsl 43 (.waits [])]⟩, [.cells 47 97, .cells 47 97]⟩
def zq154ae0 : EndD (Bool) := ⟨(Par.q boolP), ⟨[4], []⟩, []⟩
def zq154ae1 : EndD (Int × Provider × Provider) := ⟨(LQ.seq (Par.q intP) (LQ.skip (LQ.const (.ptr 0 0)) (LQ.skip (LQ.const (.ptr 1 0)) (LQ.seq (LP.q providerL) (LP.q providerL))))), ⟨[1, 2, 5], []⟩, [.cells 47 97, .cells 47 97]⟩
def zl154a : St → Option LR := L2 120 6 0 zq154a .ret zq154ae0 (.exit 0) zq154ae1 (fun s => T_keep_ProviderRemoves_l1 s.1 s.2.1 s.2.2.1 s.2.2.2.1 s.2.2.2.2.1 s.2.2.2.2.2)
theorem zk154a : PieceOk (zy154).env 0 (sub zc154 [0, 1, 0, 1, 1, 1]) zl154a :=
  loop2 (A := za154a) zh154 Facts.mix trivial (k := loopB (sub zc154 [0, 1, 0, 1, 1, 1])) (by kernel_rfl) rfl rfl (by rintro ⟨x0, x1, x2, x3, x4, x5⟩; kernel_rfl)
def T_keep_ProviderRemoves_l2 (x0 : Int) (x1 : (List Asked)) (x2 : Int) (x3 : Int) (x4 : Provider) (x5 : Provider) : Tr ((Int × (List Asked) × Int × Int × Provider × Provider) ⊕ ((Bool) ⊕ (Int × Provider × Provider))) :=
  (.ite (decide (x3 < x2))
    (.guard ((0 : Int) ≤ x3 ∧ x3 < ((Sl.len (.asked x1) : Nat) : Int))
    (.ite (((x1.getD x3.toNat default).C) == x0)
      (.leaf (.inr (.inl false)))
      (.leaf (.inl (x0, x1, x2, IntKind.i64.wrap (x3 + 1), x4, x5)))))
    (.leaf (.inr (.inr (x0, x4, x5)))))
def sh_keep_ProviderRemoves_l2 (x0 : Int) (x1 : (List Asked)) (x2 : Int) (x3 : Int) (x4 : Provider) (x5 : Provider) : Option ((Bool) ⊕ (Int × Provider × Provider)) := iter (fun s : Int × (List Asked) × Int × Int × Provider × Provider => (T_keep_ProviderRemoves_l2 s.1 s.2.1 s.2.2.1 s.2.2.2.1 s.2.2.2.2.1 s.2.2.2.2.2).run) (x0, x1, x2, x3, x4, x5)
def za154b : Ann := ⟨[], [], [], zv154, []⟩
def zq154b : EndD (Int × (List Asked) × Int × Int × Provider × Provider) := ⟨(LQ.seq (Par.q intP) (LQ.skip (LQ.const (.ptr 0 0)) (LQ.skip (LQ.const (.ptr 1 0)) (LQ.seq (Par.q askedP) (LQ.seq (Par.q intP) (LQ.seq (Par.q intP) (LQ.seq (LP.q providerL) (LP.q providerL)))))))), ⟨[1, 2, 5, 63, 64, 65], [.pub 63, .nilsl 63 (.asked [])]⟩, [.cells 47 97, .cells 47 97]⟩
def zq154be0 : EndD (Bool) := ⟨(Par.q boolP), ⟨[4], []⟩, []⟩
def zq154be1 : EndD (Int × Provider × Provider) := ⟨(LQ.seq (Par.q intP) (LQ.skip (LQ.const (.ptr 0 0)) (LQ.skip (LQ.const (.ptr 1 0)) (LQ.seq (LP.q providerL) (LP.q providerL))))), ⟨[1, 2, 5], []⟩, [.cells 47 97, .cells 47 97]⟩
def zl154b : St → Option LR := L2 120 6 0 zq154b .ret zq154be0 (.exit 2) zq154be1 (fun s => T_keep_ProviderRemoves_l2 s.1 s.2.1 s.2.2.1 s.2.2.2.1 s.2.2.2.2.1 s.2.2.2.2.2)
theorem zk154b : PieceOk (zy154).env 0 (sub zc154 [0, 1, 0, 1, 1, 1, 1]) zl154b :=
  loop2 (A := za154b) zh154 Facts.mix trivial (k := loopB (sub zc154 [0, 1, 0, 1, 1, 1, 1])) (by kernel_rfl) rfl rfl (by rintro ⟨x0, x1, x2, x3, x4, x5⟩; kernel_rfl)
def za154 : Ann := ⟨[([0, 1, 0, 1, 1, 1], zl154a), ([0, 1, 0, 1, 1, 1, 1], zl154b)], [], [], zv154, []⟩
def T_keep_ProviderRemoves (a0 : Provider) (a1 : Int) : Tr (Bool) :=
  (.bind (sh_provider_Remove a0 a1) fun v1 =>
  (.bind (sh_provider_Good a0) fun v2 =>
  (.guard (((((!v2) || (decide (a1 < 0))) || (decide (a1 ≥ 2))) = false → ((0 : Int) ≤ a1 ∧ (a1 : Int) < 2) ∧ True))
  (.guard ((((((!v2) || (decide (a1 < 0))) || (decide (a1 ≥ 2))) || (!(a0.Links.On.get a1))) = false → ((sh_keep_provides).isSome = true) ∧ True))
  (.ite (((((!v2) || (decide (a1 < 0))) || (decide (a1 ≥ 2))) || (!(a0.Links.On.get a1))) || (!((sh_keep_provides).getD default)))
    (.bind (sh_keep_provides) fun v3 =>
    (.leaf v3))
    (.two (sh_keep_ProviderRemoves_l1 a1 v1.Stake.Waits ((v1.Stake.Waits.length : Nat) : Int) 0 a0 v1) (fun v4 =>
      (.leaf v4)) (fun v5 =>
      (.two (sh_keep_ProviderRemoves_l2 v5.1 v5.2.2.Queue ((v5.2.2.Queue.length : Nat) : Int) 0 v5.2.1 v5.2.2) (fun v6 =>
        (.leaf v6)) (fun v7 =>
        (.bind (sh_provider_Begin v7.2.2 v7.1) fun v8 =>
        (.bind (sh_provider_Hear v7.2.2 v7.1 (⟨#[]⟩ : ByteArray)) fun v9 =>
        (.guard ((0 : Int) ≤ v7.1 ∧ (v7.1 : Int) < 2)
        (.guard (((!(v7.2.2.Links.On.get v7.1)) = true → ((0 : Int) ≤ v7.1 ∧ (v7.1 : Int) < 2) ∧ True))
        (.guard (((((((!(v7.2.2.Links.On.get v7.1)) && (v7.2.2.Links.Gone.get v7.1)) && (v8.2 == 11)) && (v9.2 == 4)) && (eqBank v7.2.2.Stake.Bank v7.2.1.Stake.Bank)) = true → ((sh_provider_Good v7.2.2).isSome = true) ∧ True))
        (.leaf ((((((!(v7.2.2.Links.On.get v7.1)) && (v7.2.2.Links.Gone.get v7.1)) && (v8.2 == 11)) && (v9.2 == 4)) && (eqBank v7.2.2.Stake.Bank v7.2.1.Stake.Bank)) && ((sh_provider_Good v7.2.2).getD default)))))))))))))))))
def sh_keep_ProviderRemoves (a0 : Provider) (a1 : Int) : Option (Bool) := (T_keep_ProviderRemoves a0 a1).run
def zr154 : LQ (Provider × Int) := (LQ.seq (Par.q (Par.ofLP providerL)) (Par.q intP))
def qr_keep_ProviderRemoves : LQ (Bool) := (Par.q boolP)
def F_keep_ProviderRemoves : SpecT := specF 0 zr154 2 [] (fun s => T_keep_ProviderRemoves s.1 s.2) default qr_keep_ProviderRemoves 1 []
theorem ok_keep_ProviderRemoves : SpecOk Tryz.prog 10 (F_keep_ProviderRemoves).spec :=
  specF_ok (A := za154) zh154 Facts.mix Tryz.func10 (c := zc154) (by kernel_rfl) (Lc := 0) ⟨zk154a, zk154b, trivial⟩ zr154 2 6 [] (fun s => T_keep_ProviderRemoves s.1 s.2) default qr_keep_ProviderRemoves 1 [] [] (by decide) (by kernel_rfl) (by rfl) (by decide) (by decide) (by rfl)
    (by rintro ⟨a0, a1⟩; kernel_rfl)

end
end Go.Proofs.YtknbejjfejdppaaGreat.Ab
