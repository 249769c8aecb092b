/-
  TopHeld: the law answers true for every input.
-/
import Derived.Test.YtiacgjebngnddaaGreatXAbC
import Derived.Test.YtiacgjebngnddaaGreatXFacts
import Derived.Test.YtiacgjebngnddaaGreatXPlC
namespace Go.Proofs.YtiacgjebngnddaaGreat.Ab
open Go Go.RowKit Go.WideShapes Go.ChangeShapes Go.ChangeAt
set_option linter.unusedSimpArgs false
set_option linter.unusedVariables false
set_option maxRecDepth 100000
def ok_Deed (x : Deed) : Prop := i6 x.Kind ∧ i6 x.C ∧ i6 x.D ∧ i6 x.V ∧ i6 x.N ∧ (fun _ => True) x.Back ∧ (fun _ => True) x.Forged
theorem op_int_3 : zuw 140737488351232 Tryz.prog 3 (fun a => [intP.e a]) i6 := zaqm (by kernel_rfl)
theorem op_bool_4 : zuw 140737488351232 Tryz.prog 4 (fun a => [boolP.e a]) (fun _ => True) := zaqn (by kernel_rfl)
theorem op_Deed_29 : zuw 140737488351232 Tryz.prog 29 deedL.e ok_Deed := zaiz (z9h [(0, 3), (1, 3), (2, 3), (3, 3), (4, 3), (5, 4), (6, 4)] (by kernel_rfl) (by kernel_rfl) (zhu (c := 1) (by kernel_rfl) op_int_3 (zhu (c := 1) (by kernel_rfl) op_int_3 (zhu (c := 1) (by kernel_rfl) op_int_3 (zhu (c := 1) (by kernel_rfl) op_int_3 (zhu (c := 1) (by kernel_rfl) op_int_3 (zhu (c := 1) (by kernel_rfl) op_bool_4 (zhu (c := 1) (by kernel_rfl) op_bool_4 zadg)))))))) (fun x : Int × Int × Int × Int × Int × Bool × Bool × Unit => (⟨x.1, x.2.1, x.2.2.1, x.2.2.2.1, x.2.2.2.2.1, x.2.2.2.2.2.1, x.2.2.2.2.2.2.1⟩ : Deed)) (fun _ => rfl) (fun _ h => ⟨h.1, h.2.1, h.2.2.1, h.2.2.2.1, h.2.2.2.2.1, h.2.2.2.2.2.1, h.2.2.2.2.2.2.1⟩)
theorem op_deeds_22 : zuw 140737488351232 Tryz.prog 22 (fun a => [deedsP.e a]) (fun l : (List Deed) => l.length ≤ 9223372036854775807 ∧ l.length * 48 ≤ 140737488351232 ∧ ∀ a, a ∈ l → ok_Deed a) := zamv .deeds default deedL.e (by kernel_rfl) (by kernel_rfl) op_Deed_29 (fun _ => rfl) (fun _ => by kernel_rfl) (fun _ _ => rfl)
theorem nums_of (l : List Deed) (o : l.length ≤ 9223372036854775807 ∧ l.length * 48 ≤ 140737488351232 ∧ ∀ a, a ∈ l → ok_Deed a) : zauo l := ⟨by omega, fun d hd => by obtain ⟨_, _, _, _, h, _⟩ := o.2.2 d hd; exact h.2⟩
theorem ptl (l : List Deed) (o : l.length ≤ 9223372036854775807 ∧ l.length * 48 ≤ 140737488351232 ∧ ∀ a, a ∈ l → ok_Deed a) : zkr l = some true := zae9 (nums_of l o)
set_option maxRecDepth 100000 in
theorem lifted4 (os : Os) (started : os.Started) (H : Type) (enc : TypeId × Value → H) :
    ReturnsInHanded {} Tryz.checked os 4 .any (Rows.topHeldSpec.pre6 enc Tryz.prog Tryz.f4 Rows.topHeldRow.domain false) (Rows.topHeldSpec.post enc Tryz.prog Tryz.f4 false true false false) := by
  refine returnsInHanded_of_change_sized (C := Tryz.checked) Facts.own started (by kernel_rfl) Tryz.func4
    (ChangeSpec.witness6 (enc := enc) (C := Tryz.checked) false ⟨#[], #[.slice none 0 0], []⟩ 8 (by kernel_rfl) (by kernel_rfl) (by kernel_rfl) (by kernel_rfl)) ?_
  intro W base args ds gs before hval0 hW hcnd hz0 _
  have hval : ∀ (j : Nat) t v, Tryz.f4.params[j]? = some t → args[j]? = some v → Value.okWide Tryz.prog W .any base t v := hval0
  have hz : ∀ (j : Nat) t d, Tryz.f4.params.toList[j]? = some t → ds[j]? = some d → Wt 140737488351232 Tryz.prog t d := fun j t d h1 h2 n hn => of_decide_eq_true (List.all_eq_true.1 hz0 n (DataW.weights_mem_each (zabp h1) (zabp h2) n hn))
  have hW' := hW
  obtain ⟨p, q, hA0, hV, hbf, hfz, hnd⟩ := hW
  have hA : DataW.TrodAll enc Tryz.prog W 0 (fun _ => true) true Tryz.f4.params.toList args.toList ds p := hA0
  rw [Tryz.params4] at hA hval hz
  obtain ⟨v0, vs0, d0, ds0, p0, q0, hargs, rfl, hp0, h0, r0⟩ := trodAll_cons hA
  obtain ⟨rfl, rfl, hp⟩ := trodAll_nil r0
  obtain rfl : args = #[v0] := by cases args; simp_all
  obtain ⟨rfl, rfl⟩ := trodVars_none hV
  obtain ⟨a0, A0, o0⟩ := (zafg op_deeds_22 ⟨.slice 29, by kernel_rfl, by rfl⟩) H enc W base _ _ v0 d0 p0 (hval 0 22 v0 rfl rfl) h0 (hz 0 22 d0 rfl rfl) (cx0 W) rfl (zavd W)
  refine (zai0 z24 (.cons A0 .nil) (c := ⟨Bool, zkr a0, default, fun r => (tuple ((qr_top_TopHeld.e r).take 1)).re (zu2 [] 0 0), fun r => zua [] 0 0 0 (zbz [] ((qr_top_TopHeld.e r).drop 1))⟩) (by kernel_rfl) (r := true) (ptl a0 o0) (by rfl) (by rfl)).mono fun e W' ⟨he, hb⟩ => ⟨_, he, ?_⟩
  exact zai1 Facts.laid hW' hA0 (hbf.trans (List.append_nil _)) rfl rfl (by kernel_rfl) (by kernel_rfl) rfl rfl (by rw [Tryz.params4]; intro t ht; simp only [List.mem_cons, List.mem_nil_iff, or_false] at ht; (try rcases ht with rfl) <;> exact ⟨by kernel_rfl, of_decide_eq_true (by kernel_rfl)⟩) hb
set_option maxHeartbeats 1000000 in
theorem joined4 : joinedFacts Tryz.prog 4 Tryz.f4 Rows.topHeldSpec Rows.topHeldRow = true := by
  unfold joinedFacts
  rw [Facts.laid, Facts.maps, Facts.stops, Facts.stopKnobs, Facts.heard, Facts.plainKeys, Facts.mayEnter, Facts.lifts, Facts.make]
  simp only [yy7]
  repeat' apply And.intro
  all_goals first | (with_reducible exact True.intro) | (as_aux_lemma => kernel_rfl)
theorem over4 : Rows.topHeldRow.holds Tryz.pinned (OpenSpec.ofChange Rows.topHeldSpec) :=
  OpenClaim.holds_of_wide 4 Tryz.f4 rfl rfl rfl rfl rfl rfl rfl ⟨rfl, rfl, rfl, rfl, rfl⟩ rfl rfl rfl rfl rfl (by as_aux_lemma => kernel_rfl) Tryz.func4 joined4
    (of_decide_eq_true (by kernel_rfl)) (by unfold Func.isWrapper; first | (rw [if_pos (by decide +kernel)]; kernel_rfl) | (rw [if_neg (by decide +kernel)]; exact ⟨rfl, rfl⟩))
    (fun os started H enc _ => lifted4 os started H enc)
theorem provedTopHeld : Rows.TopHeldSaid :=
  over4
end Go.Proofs.YtiacgjebngnddaaGreat.Ab
