/-
  CodecOnly: the law answers true for every input.
-/
import Derived.Test.YtfmcmcbckhmfaaaAbOpen
import Derived.Test.YtfmcmcbckhmfaaaFacts
import Derived.Test.YtfmcmcbckhmfaaaPlCLaws
namespace Go.Proofs.Ytfmcmcbckhmfaaa.Ab
open Go Go.RowKit Go.WideShapes Go.ChangeShapes Go.ChangeAt
set_option linter.unusedSimpArgs false
set_option linter.unusedVariables false
set_option maxRecDepth 100000

theorem op_str_9 : OpenT Try.prog 9 (fun a => [strP.e a]) (fun s : ByteArray => s.size ≤ 140737488351232) := open_s (by kernel_rfl)
theorem ptl (a0 : ByteArray) (o0 : a0.size ≤ 140737488351232) : sh_keep_CodecOnly a0 = some true := pl_CodecOnly o0
set_option maxRecDepth 100000 in
theorem lifted18 (os : Os) (started : os.Started) (H : Type) (enc : TypeId × Value → H) :
    ReturnsInHanded {} Try.checked os 18 .any (Rows.codecOnlySpec.pre6 enc Try.prog Try.f18 Rows.codecOnlyRow.domain false) (Rows.codecOnlySpec.post enc Try.prog Try.f18 false true false false) := by
  refine returnsInHanded_of_change_sized (C := Try.checked) Facts.own started (by kernel_rfl) Try.func18
    (ChangeSpec.witness6 (enc := enc) (C := Try.checked) false ⟨#[], #[.string ⟨#[]⟩], []⟩ 8 (by kernel_rfl) (by kernel_rfl) (by kernel_rfl) (by kernel_rfl)) ?_
  intro W base args ds gs before hval0 hW hcnd hz0 _
  have hval : ∀ (j : Nat) t v, Try.f18.params[j]? = some t → args[j]? = some v → Value.okWide Try.prog W .any base t v := hval0
  have hz : ∀ (j : Nat) t d, Try.f18.params.toList[j]? = some t → ds[j]? = some d → Wt Try.prog t d := fun j t d h1 h2 n hn => of_decide_eq_true (List.all_eq_true.1 hz0 n (DataW.weights_mem_each (get_left h1) (get_left h2) n hn))
  have hW' := hW
  obtain ⟨p, q, hA0, hV, hbf, hfz, hnd⟩ := hW
  have hA : DataW.TrodAll enc Try.prog W 0 (fun _ => true) true Try.f18.params.toList args.toList ds p := hA0
  rw [Try.params18] at hA hval hz
  obtain ⟨v0, vs0, d0, ds0, p0, q0, hargs, rfl, hp0, h0, r0⟩ := trodAll_cons hA
  obtain ⟨rfl, rfl, hp⟩ := trodAll_nil r0
  obtain rfl : args = #[v0] := by cases args; simp_all
  obtain ⟨rfl, rfl⟩ := trodVars_none hV
  obtain ⟨a0, A0, o0⟩ := (openA_one op_str_9 ⟨.string, by kernel_rfl, by rfl⟩) H enc W base _ _ v0 d0 p0 (hval 0 9 v0 rfl rfl) h0 (hz 0 9 d0 rfl rfl) (cx0 W) rfl (cx0_L W)
  refine (law_tree ok_keep_CodecOnly (.cons A0 .nil) (c := ⟨Bool, sh_keep_CodecOnly a0, default, fun r => (tuple ((qr_keep_CodecOnly.e r).take 1)).re (backF [] 0 0), fun r => backBs [] 0 0 0 (unflatB [] ((qr_keep_CodecOnly.e r).drop 1))⟩) (by kernel_rfl) (r := true) (ptl a0 o0) (by rfl) (by rfl)).mono fun e W' ⟨he, hb⟩ => ⟨_, he, ?_⟩
  exact law_post Facts.laid hW' hA0 (hbf.trans (List.append_nil _)) rfl rfl (by kernel_rfl) (by kernel_rfl) rfl rfl (by rw [Try.params18]; intro t ht; simp only [List.mem_cons, List.mem_nil_iff, or_false] at ht; (try rcases ht with rfl) <;> exact ⟨by kernel_rfl, of_decide_eq_true (by kernel_rfl)⟩) hb

theorem joined18 : joinedFacts Try.prog 18 Try.f18 Rows.codecOnlySpec Rows.codecOnlyRow = true := by
  unfold joinedFacts
  rw [Facts.laid, Facts.maps, Facts.stops, Facts.stopKnobs, Facts.heard, Facts.plainKeys, Facts.mayEnter, Facts.lifts, Facts.make]
  simp only [Bool.and_eq_true]
  repeat' apply And.intro
  all_goals first | (with_reducible exact True.intro) | (as_aux_lemma => kernel_rfl)

theorem over18 : Rows.codecOnlyRow.holds Try.pinned (OpenSpec.ofChange Rows.codecOnlySpec) :=
  OpenClaim.holds_of_wide 18 Try.f18 rfl rfl rfl rfl rfl rfl rfl ⟨rfl, rfl, rfl, rfl, rfl⟩ rfl rfl rfl rfl rfl (by as_aux_lemma => kernel_rfl) Try.func18 joined18
    (of_decide_eq_true (by kernel_rfl)) (by unfold Func.isWrapper; first | (rw [if_pos (by decide +kernel)]; kernel_rfl) | (rw [if_neg (by decide +kernel)]; exact ⟨rfl, rfl⟩))
    (fun os started H enc _ => lifted18 os started H enc)

theorem provedCodecOnly : Rows.CodecOnlySaid :=
  over18

end Go.Proofs.Ytfmcmcbckhmfaaa.Ab
