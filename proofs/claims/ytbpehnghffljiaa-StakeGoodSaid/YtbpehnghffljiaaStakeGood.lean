/-
  StakeGood: the law answers true for every input.
-/
import Derived.Test.YtbpehnghffljiaaAbOpen
import Derived.Test.YtbpehnghffljiaaFacts
import Derived.Test.YtbpehnghffljiaaPlStake8
namespace Go.Proofs.Ytbpehnghffljiaa.Ab
open Go Go.RowKit Go.WideShapes Go.ChangeShapes Go.ChangeAt
set_option linter.unusedSimpArgs false
set_option linter.unusedVariables false
set_option maxRecDepth 100000

def ok_Order (x : Order) : Prop := i64 x.Kind ∧ i64 x.D ∧ i64 x.V ∧ i64 x.N ∧ i64 x.H
theorem op_int_3 : OpenT 140737488351232 Try.prog 3 (fun a => [intP.e a]) i64 := open_i (by kernel_rfl)
theorem op_Order_71 : OpenT 140737488351232 Try.prog 71 orderL.e ok_Order := open_map (open_fields [(0, 3), (1, 3), (2, 3), (3, 3), (4, 3)] (by kernel_rfl) (by kernel_rfl) (openTs_cons (c := 1) (by kernel_rfl) op_int_3 (openTs_cons (c := 1) (by kernel_rfl) op_int_3 (openTs_cons (c := 1) (by kernel_rfl) op_int_3 (openTs_cons (c := 1) (by kernel_rfl) op_int_3 (openTs_cons (c := 1) (by kernel_rfl) op_int_3 openTs_nil)))))) (fun x : Int × Int × Int × Int × Int × Unit => (⟨x.1, x.2.1, x.2.2.1, x.2.2.2.1, x.2.2.2.2.1⟩ : Order)) (fun _ => rfl) (fun _ h => ⟨h.1, h.2.1, h.2.2.1, h.2.2.2.1, h.2.2.2.2.1⟩)
theorem op_orders_68 : OpenT 140737488351232 Try.prog 68 (fun a => [ordersP.e a]) (fun l : (List Order) => l.length ≤ 9223372036854775807 ∧ l.length * 40 ≤ 140737488351232 ∧ ∀ a, a ∈ l → ok_Order a) := open_sl .orders default orderL.e (by kernel_rfl) (by kernel_rfl) op_Order_71 (fun _ => rfl) (fun _ => by kernel_rfl) (fun _ _ => rfl)
theorem ptl (a0 : List Order) (o0 : a0.length ≤ 9223372036854775807 ∧ a0.length * 40 ≤ 140737488351232 ∧ ∀ a, a ∈ a0 → ok_Order a) : sh_keep_StakeGood a0 = some true := pl_StakeGood (fun a ha => (o0.2.2 a ha).2.2.2.1.2)
set_option maxRecDepth 100000 in
theorem lifted14 (os : Os) (started : os.Started) (H : Type) (enc : TypeId × Value → H) :
    ReturnsInHanded {} Try.checked os 14 .any (Rows.stakeGoodSpec.pre6 enc Try.prog Try.f14 Rows.stakeGoodRow.domain false) (Rows.stakeGoodSpec.post enc Try.prog Try.f14 false true false false) := by
  refine returnsInHanded_of_change_sized (C := Try.checked) Facts.own started (by kernel_rfl) Try.func14
    (ChangeSpec.witness6 (enc := enc) (C := Try.checked) false ⟨#[], #[.slice none 0 0], []⟩ 8 (by kernel_rfl) (by kernel_rfl) (by kernel_rfl) (by kernel_rfl)) ?_
  intro W base args ds gs before hval0 hW hcnd hz0 _
  have hval : ∀ (j : Nat) t v, Try.f14.params[j]? = some t → args[j]? = some v → Value.okWide Try.prog W .any base t v := hval0
  have hz : ∀ (j : Nat) t d, Try.f14.params.toList[j]? = some t → ds[j]? = some d → Wt 140737488351232 Try.prog t d := fun j t d h1 h2 n hn => of_decide_eq_true (List.all_eq_true.1 hz0 n (DataW.weights_mem_each (get_left h1) (get_left h2) n hn))
  have hW' := hW
  obtain ⟨p, q, hA0, hV, hbf, hfz, hnd⟩ := hW
  have hA : DataW.TrodAll enc Try.prog W 0 (fun _ => true) true Try.f14.params.toList args.toList ds p := hA0
  rw [Try.params14] at hA hval hz
  obtain ⟨v0, vs0, d0, ds0, p0, q0, hargs, rfl, hp0, h0, r0⟩ := trodAll_cons hA
  obtain ⟨rfl, rfl, hp⟩ := trodAll_nil r0
  obtain rfl : args = #[v0] := by cases args; simp_all
  obtain ⟨rfl, rfl⟩ := trodVars_none hV
  obtain ⟨a0, A0, o0⟩ := (openA_one op_orders_68 ⟨.slice 71, by kernel_rfl, by rfl⟩) H enc W base _ _ v0 d0 p0 (hval 0 68 v0 rfl rfl) h0 (hz 0 68 d0 rfl rfl) (cx0 W) rfl (cx0_L W)
  refine (law_tree ok_keep_StakeGood (.cons A0 .nil) (c := ⟨Bool, sh_keep_StakeGood a0, default, fun r => (tuple ((qr_keep_StakeGood.e r).take 1)).re (backF [] 0 0), fun r => backBs [] 0 0 0 (unflatB [] ((qr_keep_StakeGood.e r).drop 1))⟩) (by kernel_rfl) (r := true) (ptl a0 o0) (by rfl) (by rfl)).mono fun e W' ⟨he, hb⟩ => ⟨_, he, ?_⟩
  exact law_post Facts.laid hW' hA0 (hbf.trans (List.append_nil _)) rfl rfl (by kernel_rfl) (by kernel_rfl) rfl rfl (by rw [Try.params14]; intro t ht; simp only [List.mem_cons, List.mem_nil_iff, or_false] at ht; (try rcases ht with rfl) <;> exact ⟨by kernel_rfl, of_decide_eq_true (by kernel_rfl)⟩) hb

theorem joined14 : joinedFacts Try.prog 14 Try.f14 Rows.stakeGoodSpec Rows.stakeGoodRow = true := by
  unfold joinedFacts
  rw [Facts.laid, Facts.maps, Facts.stops, Facts.stopKnobs, Facts.heard, Facts.plainKeys, Facts.mayEnter, Facts.lifts, Facts.make]
  simp only [Bool.and_eq_true]
  repeat' apply And.intro
  all_goals first | (with_reducible exact True.intro) | (as_aux_lemma => kernel_rfl)

theorem over14 : Rows.stakeGoodRow.holds Try.pinned (OpenSpec.ofChange Rows.stakeGoodSpec) :=
  OpenClaim.holds_of_wide 14 Try.f14 rfl rfl rfl rfl rfl rfl rfl ⟨rfl, rfl, rfl, rfl, rfl⟩ rfl rfl rfl rfl rfl (by as_aux_lemma => kernel_rfl) Try.func14 joined14
    (of_decide_eq_true (by kernel_rfl)) (by unfold Func.isWrapper; first | (rw [if_pos (by decide +kernel)]; kernel_rfl) | (rw [if_neg (by decide +kernel)]; exact ⟨rfl, rfl⟩))
    (fun os started H enc _ => lifted14 os started H enc)

theorem provedStakeGood : Rows.StakeGoodSaid :=
  over14

end Go.Proofs.Ytbpehnghffljiaa.Ab
