/-
  StakeDiffs: the law answers true for every input.
-/
import Derived.Test.YtbpehnghffljiaaAbOpen
import Derived.Test.YtbpehnghffljiaaFacts
import Derived.Test.YtbpehnghffljiaaPlStake7
namespace Go.Proofs.Ytbpehnghffljiaa.Ab
open Go Go.RowKit Go.WideShapes Go.ChangeShapes Go.ChangeAt
set_option linter.unusedSimpArgs false
set_option linter.unusedVariables false
set_option maxRecDepth 100000

theorem op_int_3 : OpenT 140737488351232 Try.prog 3 (fun a => [intP.e a]) i64 := open_i (by kernel_rfl)
theorem op_ints_46 : OpenT 140737488351232 Try.prog 46 (fun a => [intsP.e a]) (fun l : (List Int) => l.length ≤ 9223372036854775807 ∧ l.length * 8 ≤ 140737488351232 ∧ ∀ a, a ∈ l → i64 a) := open_sl .ints 0 (fun a => [intP.e a]) (by kernel_rfl) (by kernel_rfl) op_int_3 (fun _ => rfl) (fun _ => by kernel_rfl) (fun _ _ => rfl)
theorem ptl {p q r : Prop} (a0 a1 a2 : List Int) (_ : p) (_ : q) (_ : r) : sh_keep_StakeDiffs a0 a1 a2 = some true := pl_StakeDiffs
set_option maxRecDepth 100000 in
theorem lifted8 (os : Os) (started : os.Started) (H : Type) (enc : TypeId × Value → H) :
    ReturnsInHanded {} Try.checked os 8 .any (Rows.stakeDiffsSpec.pre6 enc Try.prog Try.f8 Rows.stakeDiffsRow.domain false) (Rows.stakeDiffsSpec.post enc Try.prog Try.f8 false true false false) := by
  refine returnsInHanded_of_change_sized (C := Try.checked) Facts.own started (by kernel_rfl) Try.func8
    (ChangeSpec.witness6 (enc := enc) (C := Try.checked) false ⟨#[], #[.slice none 0 0, .slice none 0 0, .slice none 0 0], []⟩ 8 (by kernel_rfl) (by kernel_rfl) (by kernel_rfl) (by kernel_rfl)) ?_
  intro W base args ds gs before hval0 hW hcnd hz0 _
  have hval : ∀ (j : Nat) t v, Try.f8.params[j]? = some t → args[j]? = some v → Value.okWide Try.prog W .any base t v := hval0
  have hz : ∀ (j : Nat) t d, Try.f8.params.toList[j]? = some t → ds[j]? = some d → Wt 140737488351232 Try.prog t d := fun j t d h1 h2 n hn => of_decide_eq_true (List.all_eq_true.1 hz0 n (DataW.weights_mem_each (get_left h1) (get_left h2) n hn))
  have hW' := hW
  obtain ⟨p, q, hA0, hV, hbf, hfz, hnd⟩ := hW
  have hA : DataW.TrodAll enc Try.prog W 0 (fun _ => true) true Try.f8.params.toList args.toList ds p := hA0
  rw [Try.params8] at hA hval hz
  obtain ⟨v0, vs0, d0, ds0, p0, q0, hargs, rfl, hp0, h0, r0⟩ := trodAll_cons hA
  obtain ⟨v1, vs1, d1, ds1, p1, q1, rfl, rfl, hp1, h1, r1⟩ := trodAll_cons r0
  obtain ⟨v2, vs2, d2, ds2, p2, q2, rfl, rfl, hp2, h2, r2⟩ := trodAll_cons r1
  obtain ⟨rfl, rfl, hp⟩ := trodAll_nil r2
  obtain rfl : args = #[v0, v1, v2] := by cases args; simp_all
  obtain ⟨rfl, rfl⟩ := trodVars_none hV
  obtain ⟨a0, A0, o0⟩ := (openA_one op_ints_46 ⟨.slice 3, by kernel_rfl, by rfl⟩) H enc W base _ _ v0 d0 p0 (hval 0 46 v0 rfl rfl) h0 (hz 0 46 d0 rfl rfl) (cx0 W) rfl (cx0_L W)
  obtain ⟨a1, A1, o1⟩ := (openA_one op_ints_46 ⟨.slice 3, by kernel_rfl, by rfl⟩) H enc W base _ _ v1 d1 p1 (hval 1 46 v1 rfl rfl) h1 (hz 1 46 d1 rfl rfl) (cx0 W) rfl (cx0_L W)
  obtain ⟨a2, A2, o2⟩ := (openA_one op_ints_46 ⟨.slice 3, by kernel_rfl, by rfl⟩) H enc W base _ _ v2 d2 p2 (hval 2 46 v2 rfl rfl) h2 (hz 2 46 d2 rfl rfl) (cx0 W) rfl (cx0_L W)
  refine (law_tree ok_keep_StakeDiffs (.cons A0 (.cons A1 (.cons A2 .nil))) (c := ⟨Bool, sh_keep_StakeDiffs a0 a1 a2, default, fun r => (tuple ((qr_keep_StakeDiffs.e r).take 1)).re (backF [] 0 0), fun r => backBs [] 0 0 0 (unflatB [] ((qr_keep_StakeDiffs.e r).drop 1))⟩) (by kernel_rfl) (r := true) (ptl a0 a1 a2 o0 o1 o2) (by rfl) (by rfl)).mono fun e W' ⟨he, hb⟩ => ⟨_, he, ?_⟩
  exact law_post Facts.laid hW' hA0 (hbf.trans (List.append_nil _)) rfl rfl (by kernel_rfl) (by kernel_rfl) rfl rfl (by rw [Try.params8]; intro t ht; simp only [List.mem_cons, List.mem_nil_iff, or_false] at ht; (try rcases ht with rfl | rfl | rfl) <;> exact ⟨by kernel_rfl, of_decide_eq_true (by kernel_rfl)⟩) hb

theorem joined8 : joinedFacts Try.prog 8 Try.f8 Rows.stakeDiffsSpec Rows.stakeDiffsRow = true := by
  unfold joinedFacts
  rw [Facts.laid, Facts.maps, Facts.stops, Facts.stopKnobs, Facts.heard, Facts.plainKeys, Facts.mayEnter, Facts.lifts, Facts.make]
  simp only [Bool.and_eq_true]
  repeat' apply And.intro
  all_goals first | (with_reducible exact True.intro) | (as_aux_lemma => kernel_rfl)

theorem over8 : Rows.stakeDiffsRow.holds Try.pinned (OpenSpec.ofChange Rows.stakeDiffsSpec) :=
  OpenClaim.holds_of_wide 8 Try.f8 rfl rfl rfl rfl rfl rfl rfl ⟨rfl, rfl, rfl, rfl, rfl⟩ rfl rfl rfl rfl rfl (by as_aux_lemma => kernel_rfl) Try.func8 joined8
    (of_decide_eq_true (by kernel_rfl)) (by unfold Func.isWrapper; first | (rw [if_pos (by decide +kernel)]; kernel_rfl) | (rw [if_neg (by decide +kernel)]; exact ⟨rfl, rfl⟩))
    (fun os started H enc _ => lifted8 os started H enc)

theorem provedStakeDiffs : Rows.StakeDiffsSaid :=
  over8

end Go.Proofs.Ytbpehnghffljiaa.Ab
