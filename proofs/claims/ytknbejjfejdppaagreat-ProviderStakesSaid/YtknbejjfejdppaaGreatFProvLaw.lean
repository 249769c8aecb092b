/-
  The functions, each by its tree.
-/
import Derived.Test.YtknbejjfejdppaaGreatFacts
import Derived.Test.YtknbejjfejdppaaGreatAbStructs
import Derived.Test.YtknbejjfejdppaaGreatAbFun
import Derived.Test.YtknbejjfejdppaaGreatFProv
import Derived.Test.YtknbejjfejdppaaGreatFRefP
import Derived.Test.YtknbejjfejdppaaGreatFLine
import Derived.Test.YtknbejjfejdppaaGreatFCodec
import Derived.Test.YtknbejjfejdppaaGreatFStakeA
import Derived.Test.YtknbejjfejdppaaGreatFStakeB
import Derived.Test.YtknbejjfejdppaaGreatFRefA
import Derived.Test.YtknbejjfejdppaaGreatFRefB
import Derived.Test.YtknbejjfejdppaaGreatFBank
namespace Go.Proofs.YtknbejjfejdppaaGreat.Ab
open Go Go.RowKit
set_option maxRecDepth 100000
set_option linter.unusedVariables false
set_option linter.unusedSimpArgs false
noncomputable section

noncomputable def zc145 : Code := Tryz.f16.body.getD .skip
def zv145 : List (List Nat) := [[], [1, 2], [1, 2, 3, 4], [0]]
noncomputable def zy145 : EnvT := ⟨Tryz.prog, lookT [(38, F_provider_New), (33, F_provider_Delegate), (12, F_provider_End), (22, F_provider_Good)]⟩
theorem zh145 : (zy145).Ok := lookT_ok ⟨ok_provider_New, ok_provider_Delegate, ok_provider_End, ok_provider_Good, trivial⟩
def za145 : Ann := ⟨[], [], [], zv145, []⟩
def T_law_provides  : Tr (Bool) :=
  (.bind (sh_provider_New) fun v1 =>
  (.bind (sh_provider_Delegate v1 0 0 500) fun v2 =>
  (.bind (sh_provider_End v2.1 3) fun v3 =>
  (.guard (((((((v2.2 == 0) && (v3.2.2 == 0)) && (v3.1.Height == 1)) && (((v3.2.1.length : Nat) : Int) == 0)) && (((v3.1.Set.length : Nat) : Int) == 1)) = true → ((sh_provider_Good v3.1).isSome = true) ∧ True))
  (.leaf ((((((v2.2 == 0) && (v3.2.2 == 0)) && (v3.1.Height == 1)) && (((v3.2.1.length : Nat) : Int) == 0)) && (((v3.1.Set.length : Nat) : Int) == 1)) && ((sh_provider_Good v3.1).getD default)))))))
def sh_law_provides  : Option (Bool) := (T_law_provides ).run
def zr145 : LQ (Unit) := LQ.nil
def qr_law_provides : LQ (Bool) := (Par.q boolP)
def F_law_provides : SpecT := specF 0 zr145 0 [] (fun s => T_law_provides ) default qr_law_provides 1 []
theorem ok_law_provides : SpecOk Tryz.prog 16 (F_law_provides).spec :=
  specF_ok (A := za145) zh145 Facts.mix Tryz.func16 (c := zc145) (by kernel_rfl) (Lc := 0) trivial zr145 0 3 [] (fun s => T_law_provides ) default qr_law_provides 1 [] [] (by decide) (by kernel_rfl) (by rfl) (by decide) (by decide) (by rfl)
    (by rintro _; kernel_rfl)

noncomputable def zc147 : Code := Tryz.f9.body.getD .skip
def zv147 : List (List Nat) := [[1, 2, 3, 4, 5], [1, 2, 3, 4, 5, 11, 12], [1, 2, 3, 4, 5, 11, 12, 13, 14], [1, 2, 3, 4, 5, 11, 13, 48], [10], [1, 2, 3, 4, 5, 11, 12, 13], [11, 12, 13, 14], [10]]
noncomputable def zy147 : EnvT := ⟨Tryz.prog, lookT [(11, F_ref_CopyProvider), (33, F_provider_Delegate), (34, F_ref_ProviderDelegate), (15, F_ref_SameProvider), (22, F_provider_Good), (35, F_ref_GoodProvider), (36, F_provider_Undelegate), (37, F_ref_ProviderUndelegate), (38, F_provider_New), (39, F_ref_NewProvider), (16, F_law_provides)]⟩
theorem zh147 : (zy147).Ok := lookT_ok ⟨ok_ref_CopyProvider, ok_provider_Delegate, ok_ref_ProviderDelegate, ok_ref_SameProvider, ok_provider_Good, ok_ref_GoodProvider, ok_provider_Undelegate, ok_ref_ProviderUndelegate, ok_provider_New, ok_ref_NewProvider, ok_law_provides, trivial⟩
def za147 : Ann := ⟨[], [], [], zv147, []⟩
def T_law_ProviderStakes (a0 : Provider) (a1 : Int) (a2 : Int) (a3 : Int) (a4 : Int) : Tr (Bool) :=
  (.bind (sh_ref_CopyProvider a0) fun v1 =>
  (.bind (sh_provider_Delegate v1 a1 a2 a3) fun v2 =>
  (.bind (sh_ref_ProviderDelegate a0 a1 a2 a3) fun v3 =>
  (.guard (((v2.2 != v3.2) = false → ((sh_ref_SameProvider v2.1 v3.1).isSome = true) ∧ True))
  (.guard ((((v2.2 != v3.2) || (!((sh_ref_SameProvider v2.1 v3.1).getD default))) = false → ((sh_ref_CopyProvider a0).isSome = true) ∧ True))
  (.guard ((((v2.2 != v3.2) || (!((sh_ref_SameProvider v2.1 v3.1).getD default))) = false → ((sh_provider_Good ((sh_ref_CopyProvider a0).getD default)).isSome = true) ∧ True))
  (.guard ((((v2.2 != v3.2) || (!((sh_ref_SameProvider v2.1 v3.1).getD default))) = false → ((sh_ref_GoodProvider a0).isSome = true) ∧ True))
  (.ite (((v2.2 != v3.2) || (!((sh_ref_SameProvider v2.1 v3.1).getD default))) || (!(((sh_provider_Good ((sh_ref_CopyProvider a0).getD default)).getD default) == ((sh_ref_GoodProvider a0).getD default))))
    (.leaf false)
    (.bind (sh_ref_CopyProvider a0) fun v4 =>
    (.bind (sh_provider_Undelegate v4 a1 a2 a3 a4) fun v5 =>
    (.bind (sh_ref_ProviderUndelegate a0 a1 a2 a3 a4) fun v6 =>
    (.guard (((v5.2 == v6.2) = true → ((sh_ref_SameProvider v5.1 v6.1).isSome = true) ∧ True))
    (.guard ((((v5.2 == v6.2) && ((sh_ref_SameProvider v5.1 v6.1).getD default)) = true → ((sh_provider_New).isSome = true) ∧ True))
    (.guard ((((v5.2 == v6.2) && ((sh_ref_SameProvider v5.1 v6.1).getD default)) = true → ((sh_ref_NewProvider).isSome = true) ∧ True))
    (.guard ((((v5.2 == v6.2) && ((sh_ref_SameProvider v5.1 v6.1).getD default)) = true → ((sh_ref_SameProvider ((sh_provider_New).getD default) ((sh_ref_NewProvider).getD default)).isSome = true) ∧ True))
    (.guard (((((v5.2 == v6.2) && ((sh_ref_SameProvider v5.1 v6.1).getD default)) && ((sh_ref_SameProvider ((sh_provider_New).getD default) ((sh_ref_NewProvider).getD default)).getD default)) = true → ((sh_law_provides).isSome = true) ∧ True))
    (.leaf ((((v5.2 == v6.2) && ((sh_ref_SameProvider v5.1 v6.1).getD default)) && ((sh_ref_SameProvider ((sh_provider_New).getD default) ((sh_ref_NewProvider).getD default)).getD default)) && ((sh_law_provides).getD default)))))))))))))))))))
def sh_law_ProviderStakes (a0 : Provider) (a1 : Int) (a2 : Int) (a3 : Int) (a4 : Int) : Option (Bool) := (T_law_ProviderStakes a0 a1 a2 a3 a4).run
def zr147 : LQ (Provider × Int × Int × Int × Int) := (LQ.seq (Par.q (Par.ofLP providerL)) (LQ.seq (Par.q intP) (LQ.seq (Par.q intP) (LQ.seq (Par.q intP) (Par.q intP)))))
def qr_law_ProviderStakes : LQ (Bool) := (Par.q boolP)
def F_law_ProviderStakes : SpecT := specF 0 zr147 5 [] (fun s => T_law_ProviderStakes s.1 s.2.1 s.2.2.1 s.2.2.2.1 s.2.2.2.2) default qr_law_ProviderStakes 1 []
theorem ok_law_ProviderStakes : SpecOk Tryz.prog 9 (F_law_ProviderStakes).spec :=
  specF_ok (A := za147) zh147 Facts.mix Tryz.func9 (c := zc147) (by kernel_rfl) (Lc := 0) trivial zr147 5 5 [] (fun s => T_law_ProviderStakes s.1 s.2.1 s.2.2.1 s.2.2.2.1 s.2.2.2.2) default qr_law_ProviderStakes 1 [] [] (by decide) (by kernel_rfl) (by rfl) (by decide) (by decide) (by rfl)
    (by rintro ⟨a0, a1, a2, a3, a4⟩; kernel_rfl)

noncomputable def zc150 : Code := Tryz.f3.body.getD .skip
def zv150 : List (List Nat) := [[1, 2], [1, 2, 5], [1, 2, 5, 6, 7, 8], [2, 5, 6, 7, 8, 9, 10, 11], [4]]
noncomputable def zy150 : EnvT := ⟨Tryz.prog, lookT [(11, F_ref_CopyProvider), (12, F_provider_End), (13, F_ref_EndProvider), (14, F_ref_SameNumbers), (15, F_ref_SameProvider), (16, F_law_provides)]⟩
theorem zh150 : (zy150).Ok := lookT_ok ⟨ok_ref_CopyProvider, ok_provider_End, ok_ref_EndProvider, ok_ref_SameNumbers, ok_ref_SameProvider, ok_law_provides, trivial⟩
def za150 : Ann := ⟨[], [], [], zv150, []⟩
def T_law_ProviderEnds (a0 : Provider) (a1 : Int) : Tr (Bool) :=
  (.bind (sh_ref_CopyProvider a0) fun v1 =>
  (.bind (sh_provider_End v1 a1) fun v2 =>
  (.bind (sh_ref_EndProvider a0 a1) fun v3 =>
  (.guard (((v2.2.2 == v3.2.2) = true → ((sh_ref_SameNumbers v2.2.1 v3.2.1).isSome = true) ∧ True))
  (.guard ((((v2.2.2 == v3.2.2) && ((sh_ref_SameNumbers v2.2.1 v3.2.1).getD default)) = true → ((sh_ref_SameProvider v2.1 v3.1).isSome = true) ∧ True))
  (.guard (((((v2.2.2 == v3.2.2) && ((sh_ref_SameNumbers v2.2.1 v3.2.1).getD default)) && ((sh_ref_SameProvider v2.1 v3.1).getD default)) = true → ((sh_ref_SameProvider v1 a0).isSome = true) ∧ True))
  (.guard ((((((v2.2.2 == v3.2.2) && ((sh_ref_SameNumbers v2.2.1 v3.2.1).getD default)) && ((sh_ref_SameProvider v2.1 v3.1).getD default)) && ((sh_ref_SameProvider v1 a0).getD default)) = true → ((sh_law_provides).isSome = true) ∧ True))
  (.leaf (((((v2.2.2 == v3.2.2) && ((sh_ref_SameNumbers v2.2.1 v3.2.1).getD default)) && ((sh_ref_SameProvider v2.1 v3.1).getD default)) && ((sh_ref_SameProvider v1 a0).getD default)) && ((sh_law_provides).getD default))))))))))
def sh_law_ProviderEnds (a0 : Provider) (a1 : Int) : Option (Bool) := (T_law_ProviderEnds a0 a1).run
def zr150 : LQ (Provider × Int) := (LQ.seq (Par.q (Par.ofLP providerL)) (Par.q intP))
def qr_law_ProviderEnds : LQ (Bool) := (Par.q boolP)
def F_law_ProviderEnds : SpecT := specF 0 zr150 2 [] (fun s => T_law_ProviderEnds s.1 s.2) default qr_law_ProviderEnds 1 []
theorem ok_law_ProviderEnds : SpecOk Tryz.prog 3 (F_law_ProviderEnds).spec :=
  specF_ok (A := za150) zh150 Facts.mix Tryz.func3 (c := zc150) (by kernel_rfl) (Lc := 0) trivial zr150 2 6 [] (fun s => T_law_ProviderEnds s.1 s.2) default qr_law_ProviderEnds 1 [] [] (by decide) (by kernel_rfl) (by rfl) (by decide) (by decide) (by rfl)
    (by rintro ⟨a0, a1⟩; kernel_rfl)

end
end Go.Proofs.YtknbejjfejdppaaGreat.Ab
