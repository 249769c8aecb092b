/-
  The functions, each by its tree.
-/
import Derived.Test.YtknbejjfejdppaaGreatFacts
import Derived.Test.YtknbejjfejdppaaGreatAbStructs
import Derived.Test.YtknbejjfejdppaaGreatAbFun
import Derived.Test.YtknbejjfejdppaaGreatFProv
import Derived.Test.YtknbejjfejdppaaGreatFRefP
import Derived.Test.YtknbejjfejdppaaGreatFLine
import Derived.Test.YtknbejjfejdppaaGreatFCodec
import Derived.Test.YtknbejjfejdppaaGreatFStakeA
import Derived.Test.YtknbejjfejdppaaGreatFStakeB
import Derived.Test.YtknbejjfejdppaaGreatFRefA
import Derived.Test.YtknbejjfejdppaaGreatFRefB
import Derived.Test.YtknbejjfejdppaaGreatFBank
namespace Go.Proofs.YtknbejjfejdppaaGreat.Ab
open Go Go.RowKit
set_option maxRecDepth 100000
set_option linter.unusedVariables false
set_option linter.unusedSimpArgs false
noncomputable section

noncomputable def zc145 : Code := Tryz.f16.body.getD .skip
def zv145 : List (List Nat) := [[], [1, 2], [1, 2, 3, 4], [0]]
noncomputable def zy145 : EnvT := ⟨Tryz.prog, lookT [(38, F_provider_New), (33, F_provider_Delegate), (12, F_provider_End), (22, F_provider_Good)]⟩
theorem zh145 : (zy145).Ok := lookT_ok ⟨ok_provider_New, ok_provider_Delegate, ok_provider_End, ok_provider_Good, trivial⟩
def za145 : Ann := ⟨[], [], [], zv145, []⟩
def T_law_provides  : Tr (Bool) :=
  (.bind (sh_provider_New) fun v1 =>
  (.bind (sh_provider_Delegate v1 0 0 500) fun v2 =>
  (.bind (sh_provider_End v2.1 3) fun v3 =>
  (.guard (((((((v2.2 == 0) && (v3.2.2 == 0)) && (v3.1.Height == 1)) && (((v3.2.1.length : Nat) : Int) == 0)) && (((v3.1.Set.length : Nat) : Int) == 1)) = true → ((sh_provider_Good v3.1).isSome = true) ∧ True))
  (.leaf ((((((v2.2 == 0) && (v3.2.2 == 0)) && (v3.1.Height == 1)) && (((v3.2.1.length : Nat) : Int) == 0)) && (((v3.1.Set.length : Nat) : Int) == 1)) && ((sh_provider_Good v3.1).getD default)))))))
def sh_law_provides  : Option (Bool) := (T_law_provides ).run
def zr145 : LQ (Unit) := LQ.nil
def qr_law_provides : LQ (Bool) := (Par.q boolP)
def F_law_provides : SpecT := specF 0 zr145 0 [] (fun s => T_law_provides ) default qr_law_provides 1 []
theorem ok_law_provides : SpecOk Tryz.prog 16 (F_law_provides).spec :=
  specF_ok (A := za145) zh145 Facts.mix Tryz.func16 (c := zc145) (by kernel_rfl) (Lc := 0) trivial zr145 0 3 [] (fun s => T_law_provides ) default qr_law_provides 1 [] [] (by decide) (by kernel_rfl) (by rfl) (by decide) (by decide) (by rfl)
    (by rintro _; kernel_rfl)

noncomputable def zc148 : Code := Tryz.f5.body.getD .skip
def zv148 : List (List Nat) := [[1, 2, 3], [1, 2, 3, 7, 8], [7, 8, 9, 10], [6]]
noncomputable def zy148 : EnvT := ⟨Tryz.prog, lookT [(11, F_ref_CopyProvider), (19, F_provider_Hear), (20, F_ref_ProviderHear), (15, F_ref_SameProvider), (16, F_law_provides)]⟩
theorem zh148 : (zy148).Ok := lookT_ok ⟨ok_ref_CopyProvider, ok_provider_Hear, ok_ref_ProviderHear, ok_ref_SameProvider, ok_law_provides, trivial⟩
def za148 : Ann := ⟨[], [], [], zv148, []⟩
def T_law_ProviderHears (a0 : Provider) (a1 : Int) (a2 : ByteArray) : Tr (Bool) :=
  (.bind (sh_ref_CopyProvider a0) fun v1 =>
  (.bind (sh_provider_Hear v1 a1 a2) fun v2 =>
  (.bind (sh_ref_ProviderHear a0 a1 a2) fun v3 =>
  (.guard (((v2.2 == v3.2) = true → ((sh_ref_SameProvider v2.1 v3.1).isSome = true) ∧ True))
  (.guard ((((v2.2 == v3.2) && ((sh_ref_SameProvider v2.1 v3.1).getD default)) = true → ((sh_law_provides).isSome = true) ∧ True))
  (.leaf (((v2.2 == v3.2) && ((sh_ref_SameProvider v2.1 v3.1).getD default)) && ((sh_law_provides).getD default))))))))
def sh_law_ProviderHears (a0 : Provider) (a1 : Int) (a2 : ByteArray) : Option (Bool) := (T_law_ProviderHears a0 a1 a2).run
def zr148 : LQ (Provider × Int × ByteArray) := (LQ.seq (Par.q (Par.ofLP providerL)) (LQ.seq (Par.q intP) (Par.q strP)))
def qr_law_ProviderHears : LQ (Bool) := (Par.q boolP)
def F_law_ProviderHears : SpecT := specF 0 zr148 3 [] (fun s => T_law_ProviderHears s.1 s.2.1 s.2.2) default qr_law_ProviderHears 1 []
theorem ok_law_ProviderHears : SpecOk Tryz.prog 5 (F_law_ProviderHears).spec :=
  specF_ok (A := za148) zh148 Facts.mix Tryz.func5 (c := zc148) (by kernel_rfl) (Lc := 0) trivial zr148 3 5 [] (fun s => T_law_ProviderHears s.1 s.2.1 s.2.2) default qr_law_ProviderHears 1 [] [] (by decide) (by kernel_rfl) (by rfl) (by decide) (by decide) (by rfl)
    (by rintro ⟨a0, a1, a2⟩; kernel_rfl)

noncomputable def zc149 : Code := Tryz.f4.body.getD .skip
def zv149 : List (List Nat) := [[1, 2, 3], [1, 2, 3, 7, 8], [7, 8, 9, 10], [6]]
noncomputable def zy149 : EnvT := ⟨Tryz.prog, lookT [(11, F_ref_CopyProvider), (17, F_provider_Evidence), (18, F_ref_Evidence), (15, F_ref_SameProvider), (16, F_law_provides)]⟩
theorem zh149 : (zy149).Ok := lookT_ok ⟨ok_ref_CopyProvider, ok_provider_Evidence, ok_ref_Evidence, ok_ref_SameProvider, ok_law_provides, trivial⟩
def za149 : Ann := ⟨[], [], [], zv149, []⟩
def T_law_ProviderJudges (a0 : Provider) (a1 : Int) (a2 : Int) : Tr (Bool) :=
  (.bind (sh_ref_CopyProvider a0) fun v1 =>
  (.bind (sh_provider_Evidence v1 a1 a2) fun v2 =>
  (.bind (sh_ref_Evidence a0 a1 a2) fun v3 =>
  (.guard (((v2.2 == v3.2) = true → ((sh_ref_SameProvider v2.1 v3.1).isSome = true) ∧ True))
  (.guard ((((v2.2 == v3.2) && ((sh_ref_SameProvider v2.1 v3.1).getD default)) = true → ((sh_law_provides).isSome = true) ∧ True))
  (.leaf (((v2.2 == v3.2) && ((sh_ref_SameProvider v2.1 v3.1).getD default)) && ((sh_law_provides).getD default))))))))
def sh_law_ProviderJudges (a0 : Provider) (a1 : Int) (a2 : Int) : Option (Bool) := (T_law_ProviderJudges a0 a1 a2).run
def zr149 : LQ (Provider × Int × Int) := (LQ.seq (Par.q (Par.ofLP providerL)) (LQ.seq (Par.q intP) (Par.q intP)))
def qr_law_ProviderJudges : LQ (Bool) := (Par.q boolP)
def F_law_ProviderJudges : SpecT := specF 0 zr149 3 [] (fun s => T_law_ProviderJudges s.1 s.2.1 s.2.2) default qr_law_ProviderJudges 1 []
theorem ok_law_ProviderJudges : SpecOk Tryz.prog 4 (F_law_ProviderJudges).spec :=
  specF_ok (A := za149) zh149 Facts.mix Tryz.func4 (c := zc149) (by kernel_rfl) (Lc := 0) trivial zr149 3 5 [] (fun s => T_law_ProviderJudges s.1 s.2.1 s.2.2) default qr_law_ProviderJudges 1 [] [] (by decide) (by kernel_rfl) (by rfl) (by decide) (by decide) (by rfl)
    (by rintro ⟨a0, a1, a2⟩; kernel_rfl)

end
end Go.Proofs.YtknbejjfejdppaaGreat.Ab
