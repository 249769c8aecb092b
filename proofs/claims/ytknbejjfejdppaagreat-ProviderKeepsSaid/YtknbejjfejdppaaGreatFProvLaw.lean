/-
  The functions, each by its tree.
-/
import Derived.Test.YtknbejjfejdppaaGreatFacts
import Derived.Test.YtknbejjfejdppaaGreatAbStructs
import Derived.Test.YtknbejjfejdppaaGreatAbFun
import Derived.Test.YtknbejjfejdppaaGreatFProv
import Derived.Test.YtknbejjfejdppaaGreatFRefP
import Derived.Test.YtknbejjfejdppaaGreatFLine
import Derived.Test.YtknbejjfejdppaaGreatFCodec
import Derived.Test.YtknbejjfejdppaaGreatFStakeA
import Derived.Test.YtknbejjfejdppaaGreatFStakeB
import Derived.Test.YtknbejjfejdppaaGreatFRefA
import Derived.Test.YtknbejjfejdppaaGreatFRefB
import Derived.Test.YtknbejjfejdppaaGreatFBank
namespace Go.Proofs.YtknbejjfejdppaaGreat.Ab
open Go Go.RowKit
set_option maxRecDepth 100000
set_option linter.unusedVariables false
set_option linter.unusedSimpArgs false
noncomputable section

noncomputable def zc146 : Code := Tryz.f21.body.getD .skip
def zv146 : List (List Nat) := [[], [1, 2], [1, 2, 3, 4], [0]]
noncomputable def zy146 : EnvT := ⟨Tryz.prog, lookT [(38, F_provider_New), (33, F_provider_Delegate), (12, F_provider_End), (22, F_provider_Good)]⟩
theorem zh146 : (zy146).Ok := lookT_ok ⟨ok_provider_New, ok_provider_Delegate, ok_provider_End, ok_provider_Good, trivial⟩
def za146 : Ann := ⟨[], [], [], zv146, []⟩
def T_keep_provides  : Tr (Bool) :=
  (.bind (sh_provider_New) fun v1 =>
  (.bind (sh_provider_Delegate v1 0 0 500) fun v2 =>
  (.bind (sh_provider_End v2.1 3) fun v3 =>
  (.guard (((((((v2.2 == 0) && (v3.2.2 == 0)) && (v3.1.Height == 1)) && (((v3.2.1.length : Nat) : Int) == 0)) && (((v3.1.Set.length : Nat) : Int) == 1)) = true → ((sh_provider_Good v3.1).isSome = true) ∧ True))
  (.leaf ((((((v2.2 == 0) && (v3.2.2 == 0)) && (v3.1.Height == 1)) && (((v3.2.1.length : Nat) : Int) == 0)) && (((v3.1.Set.length : Nat) : Int) == 1)) && ((sh_provider_Good v3.1).getD default)))))))
def sh_keep_provides  : Option (Bool) := (T_keep_provides ).run
def zr146 : LQ (Unit) := LQ.nil
def qr_keep_provides : LQ (Bool) := (Par.q boolP)
def F_keep_provides : SpecT := specF 0 zr146 0 [] (fun s => T_keep_provides ) default qr_keep_provides 1 []
theorem ok_keep_provides : SpecOk Tryz.prog 21 (F_keep_provides).spec :=
  specF_ok (A := za146) zh146 Facts.mix Tryz.func21 (c := zc146) (by kernel_rfl) (Lc := 0) trivial zr146 0 3 [] (fun s => T_keep_provides ) default qr_keep_provides 1 [] [] (by decide) (by kernel_rfl) (by rfl) (by decide) (by decide) (by rfl)
    (by rintro _; kernel_rfl)

noncomputable def zc152 : Code := Tryz.f6.body.getD .skip
def zv152 : List (List Nat) := [[1, 2], [1, 2, 5, 6, 7], [1, 2, 5, 6, 25], [4], [2, 5, 77], [4], [2, 5, 79, 80], [2, 5, 79, 80, 81], [2, 5, 8, 9, 79, 80], [2, 5, 9, 10, 79, 80], [2, 5, 9, 10, 79, 80, 129], [4], [2, 5, 9, 10, 79, 80, 138], [2, 5, 9, 10, 11, 12, 79, 80], [2, 5, 79, 80, 195], [4], [2, 5, 79, 80], [4]]
noncomputable def zy152 : EnvT := ⟨Tryz.prog, lookT [(12, F_provider_End), (21, F_keep_provides), (22, F_provider_Good), (23, F_bank_Sum), (25, F_stake_Set), (24, F_keep_samePowers), (26, F_codec_Decode), (27, F_stake_Apply)]⟩
theorem zh152 : (zy152).Ok := lookT_ok ⟨ok_provider_End, ok_keep_provides, ok_provider_Good, ok_bank_Sum, ok_stake_Set, ok_keep_samePowers, ok_codec_Decode, ok_stake_Apply, trivial⟩
def T_keep_ProviderKeeps_l1 (x0 : Links) (x1 : Int) (x2 : Provider) (x3 : Provider) : Tr ((Links × Int × Provider × Provider) ⊕ ((Bool) ⊕ (Unit))) :=
  (.ite (decide (x1 < 2))
    (.guard ((0 : Int) ≤ x1 ∧ (x1 : Int) < 2)
    (.guard ((0 : Int) ≤ x1 ∧ (x1 : Int) < 2)
    (.ite (((((!((x0.On.get x1) == (x2.Links.On.get x1))) || (!((x0.Gone.get x1) == (x2.Links.Gone.get x1)))) || ((x0.Base.get x1) != (x2.Links.Base.get x1))) || (decide ((IntKind.i64.wrap ((((x0.Said.get x1).length : Nat) : Int) - (((x2.Links.Said.get x1).length : Nat) : Int))) > 1))) || (decide ((((x0.Said.get x1).length : Nat) : Int) < (((x2.Links.Said.get x1).length : Nat) : Int))))
      (.leaf (.inr (.inl false)))
      (.ite ((((x0.Said.get x1).length : Nat) : Int) == (((x2.Links.Said.get x1).length : Nat) : Int))
        (.leaf (.inl (x0, IntKind.i64.wrap (x1 + 1), x2, x3)))
        (.guard ((0 : Int) ≤ (IntKind.i64.wrap ((((x0.Said.get x1).length : Nat) : Int) - 1)) ∧ (IntKind.i64.wrap ((((x0.Said.get x1).length : Nat) : Int) - 1)) < ((Sl.len (.strs (x0.Said.get x1)) : Nat) : Int))
        (.bind (sh_codec_Decode ((x0.Said.get x1).getD ((IntKind.i64.wrap ((((x0.Said.get x1).length : Nat) : Int) - 1)).toNat) .empty)) fun v2 =>
        (.guard (((((v2.2 != 0) || (v2.1.Kind != 1)) || (v2.1.Id != x3.Height)) = false → ((sh_stake_Apply (x2.Links.Told.get x1) v2.1.Set).isSome = true) ∧ True))
        (.guard (((((v2.2 != 0) || (v2.1.Kind != 1)) || (v2.1.Id != x3.Height)) = false → ((sh_keep_samePowers ((sh_stake_Apply (x2.Links.Told.get x1) v2.1.Set).getD default) x3.Set).isSome = true) ∧ True))
        (.guard ((((((v2.2 != 0) || (v2.1.Kind != 1)) || (v2.1.Id != x3.Height)) || (!((sh_keep_samePowers ((sh_stake_Apply (x2.Links.Told.get x1) v2.1.Set).getD default) x3.Set).getD default))) = false → ((sh_keep_samePowers (x0.Told.get x1) x3.Set).isSome = true) ∧ True))
        (.ite (((((((v2.2 != 0) || (v2.1.Kind != 1)) || (v2.1.Id != x3.Height)) || (!((sh_keep_samePowers ((sh_stake_Apply (x2.Links.Told.get x1) v2.1.Set).getD default) x3.Set).getD default))) || (!((sh_keep_samePowers (x0.Told.get x1) x3.Set).getD default))) || (x0.Fresh.get x1)) || ((((x0.Done.get x1).length : Nat) : Int) != 0))
          (.leaf (.inr (.inl false)))
          (.leaf (.inl (x0, IntKind.i64.wrap (x1 + 1), x2, x3)))))))))))))
    (.leaf (.inr (.inr ()))))
def sh_keep_ProviderKeeps_l1 (x0 : Links) (x1 : Int) (x2 : Provider) (x3 : Provider) : Option ((Bool) ⊕ (Unit)) := iter (fun s : Links × Int × Provider × Provider => (T_keep_ProviderKeeps_l1 s.1 s.2.1 s.2.2.1 s.2.2.2).run) (x0, x1, x2, x3)
def za152a : Ann := ⟨[], [], [], zv152, []⟩
def zq152a : EndD (Links × Int × Provider × Provider) := ⟨(LQ.skip (LQ.const (.ptr 0 0)) (LQ.skip (LQ.const (.ptr 1 0)) (LQ.seq (Par.q (Par.ofLP linksL)) (LQ.seq (Par.q intP) (LQ.seq (LP.q providerL) (LP.q providerL)))))), ⟨[2, 5, 79, 80], []⟩, [.cells 47 97, .cells 47 97]⟩
def zq152ae0 : EndD (Bool) := ⟨(Par.q boolP), ⟨[4], []⟩, []⟩
def zq152ae1 : EndD (Unit) := ⟨LQ.nil, ⟨[], []⟩, []⟩
def zl152a : St → Option LR := L2 197 7 0 zq152a .ret zq152ae0 (.exit 0) zq152ae1 (fun s => T_keep_ProviderKeeps_l1 s.1 s.2.1 s.2.2.1 s.2.2.2)
theorem zk152a : PieceOk (zy152).env 0 (sub zc152 [0, 1, 0, 1, 1, 1, 1]) zl152a :=
  loop2 (A := za152a) zh152 Facts.mix trivial (k := loopB (sub zc152 [0, 1, 0, 1, 1, 1, 1])) (by kernel_rfl) rfl rfl (by rintro ⟨x0, x1, x2, x3⟩; kernel_rfl)
def za152 : Ann := ⟨[([0, 1, 0, 1, 1, 1, 1], zl152a)], [], [], zv152, []⟩
def T_keep_ProviderKeeps (a0 : Provider) (a1 : Int) : Tr (Bool) :=
  (.bind (sh_provider_End a0 a1) fun v1 =>
  (.guard (((v1.2.2 != 0) = false → ((sh_keep_provides).isSome = true) ∧ True))
  (.ite ((v1.2.2 != 0) || (!((sh_keep_provides).getD default)))
    (.guard (((((v1.2.1.length : Nat) : Int) == 0) = true → ((sh_keep_provides).isSome = true) ∧ True))
    (.leaf ((((v1.2.1.length : Nat) : Int) == 0) && ((sh_keep_provides).getD default))))
    (.guard ((sh_provider_Good a0).isSome = true)
    (.guard (((((!((sh_provider_Good a0).getD default)) || ((IntKind.i64.wrap (v1.1.Height - a0.Height)) != 1)) || (v1.1.Time != a1)) = false → ((sh_bank_Sum v1.1.Stake.Bank).isSome = true) ∧ True))
    (.guard (((((!((sh_provider_Good a0).getD default)) || ((IntKind.i64.wrap (v1.1.Height - a0.Height)) != 1)) || (v1.1.Time != a1)) = false → ((sh_bank_Sum a0.Stake.Bank).isSome = true) ∧ True))
    (.guard ((((((!((sh_provider_Good a0).getD default)) || ((IntKind.i64.wrap (v1.1.Height - a0.Height)) != 1)) || (v1.1.Time != a1)) || (((sh_bank_Sum v1.1.Stake.Bank).getD default) != ((sh_bank_Sum a0.Stake.Bank).getD default))) = false → ((sh_stake_Set v1.1.Stake).isSome = true) ∧ True))
    (.guard ((((((!((sh_provider_Good a0).getD default)) || ((IntKind.i64.wrap (v1.1.Height - a0.Height)) != 1)) || (v1.1.Time != a1)) || (((sh_bank_Sum v1.1.Stake.Bank).getD default) != ((sh_bank_Sum a0.Stake.Bank).getD default))) = false → ((sh_keep_samePowers v1.1.Set ((sh_stake_Set v1.1.Stake).getD default)).isSome = true) ∧ True))
    (.ite ((((((!((sh_provider_Good a0).getD default)) || ((IntKind.i64.wrap (v1.1.Height - a0.Height)) != 1)) || (v1.1.Time != a1)) || (((sh_bank_Sum v1.1.Stake.Bank).getD default) != ((sh_bank_Sum a0.Stake.Bank).getD default))) || (!((sh_keep_samePowers v1.1.Set ((sh_stake_Set v1.1.Stake).getD default)).getD default))) || (decide (((v1.1.Queue.length : Nat) : Int) > ((a0.Queue.length : Nat) : Int))))
      (.leaf false)
      (.two (sh_keep_ProviderKeeps_l1 v1.1.Links 0 a0 v1.1) (fun v3 =>
        (.leaf v3)) (fun v4 =>
        (.leaf true))))))))))))
def sh_keep_ProviderKeeps (a0 : Provider) (a1 : Int) : Option (Bool) := (T_keep_ProviderKeeps a0 a1).run
def zr152 : LQ (Provider × Int) := (LQ.seq (Par.q (Par.ofLP providerL)) (Par.q intP))
def qr_keep_ProviderKeeps : LQ (Bool) := (Par.q boolP)
def F_keep_ProviderKeeps : SpecT := specF 0 zr152 2 [] (fun s => T_keep_ProviderKeeps s.1 s.2) default qr_keep_ProviderKeeps 1 []
theorem ok_keep_ProviderKeeps : SpecOk Tryz.prog 6 (F_keep_ProviderKeeps).spec :=
  specF_ok (A := za152) zh152 Facts.mix Tryz.func6 (c := zc152) (by kernel_rfl) (Lc := 0) ⟨zk152a, trivial⟩ zr152 2 7 [] (fun s => T_keep_ProviderKeeps s.1 s.2) default qr_keep_ProviderKeeps 1 [] [] (by decide) (by kernel_rfl) (by rfl) (by decide) (by decide) (by rfl)
    (by rintro ⟨a0, a1⟩; kernel_rfl)

end
end Go.Proofs.YtknbejjfejdppaaGreat.Ab
