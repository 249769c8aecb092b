/-
  TopMemory: the law answers true for every input.
-/
import Derived.Test.YtiacgjebngnddaaGreatXAbC
import Derived.Test.YtiacgjebngnddaaGreatXFacts
import Derived.Test.YtiacgjebngnddaaGreatXPlC
namespace Go.Proofs.YtiacgjebngnddaaGreat.Ab
open Go Go.RowKit Go.WideShapes Go.ChangeShapes Go.ChangeAt
set_option linter.unusedSimpArgs false
set_option linter.unusedVariables false
set_option maxRecDepth 100000
def ok_Deed (x : Deed) : Prop := i6 x.Kind ∧ i6 x.C ∧ i6 x.D ∧ i6 x.V ∧ i6 x.N ∧ (fun _ => True) x.Back ∧ (fun _ => True) x.Forged
theorem op_int_3 : zwd 140737488351232 Tryz.prog 3 (fun a => [intP.e a]) i6 := zash (by kernel_rfl)
theorem op_bool_4 : zwd 140737488351232 Tryz.prog 4 (fun a => [boolP.e a]) (fun _ => True) := zasi (by kernel_rfl)
theorem op_Deed_29 : zwd 140737488351232 Tryz.prog 29 deedL.e ok_Deed := zakc (zaau [(0, 3), (1, 3), (2, 3), (3, 3), (4, 3), (5, 4), (6, 4)] (by kernel_rfl) (by kernel_rfl) (zi5 (c := 1) (by kernel_rfl) op_int_3 (zi5 (c := 1) (by kernel_rfl) op_int_3 (zi5 (c := 1) (by kernel_rfl) op_int_3 (zi5 (c := 1) (by kernel_rfl) op_int_3 (zi5 (c := 1) (by kernel_rfl) op_int_3 (zi5 (c := 1) (by kernel_rfl) op_bool_4 (zi5 (c := 1) (by kernel_rfl) op_bool_4 zaer)))))))) (fun x : Int × Int × Int × Int × Int × Bool × Bool × Unit => (⟨x.1, x.2.1, x.2.2.1, x.2.2.2.1, x.2.2.2.2.1, x.2.2.2.2.2.1, x.2.2.2.2.2.2.1⟩ : Deed)) (fun _ => rfl) (fun _ h => ⟨h.1, h.2.1, h.2.2.1, h.2.2.2.1, h.2.2.2.2.1, h.2.2.2.2.2.1, h.2.2.2.2.2.2.1⟩)
theorem op_deeds_22 : zwd 140737488351232 Tryz.prog 22 (fun a => [deedsP.e a]) (fun l : (List Deed) => l.length ≤ 9223372036854775807 ∧ l.length * 48 ≤ 140737488351232 ∧ ∀ a, a ∈ l → ok_Deed a) := zaoy .deeds default deedL.e (by kernel_rfl) (by kernel_rfl) op_Deed_29 (fun _ => rfl) (fun _ => by kernel_rfl) (fun _ _ => rfl)
theorem nums_of (l : List Deed) (o : l.length ≤ 9223372036854775807 ∧ l.length * 48 ≤ 140737488351232 ∧ ∀ a, a ∈ l → ok_Deed a) : zaxr l := ⟨by omega, fun d hd => by obtain ⟨_, _, _, _, h, _⟩ := o.2.2 d hd; exact h.2⟩
theorem ptl (l : List Deed) (o : l.length ≤ 9223372036854775807 ∧ l.length * 48 ≤ 140737488351232 ∧ ∀ a, a ∈ l → ok_Deed a) : zi4 l = some true := zaal (nums_of l o)
set_option maxRecDepth 100000 in
theorem lifted7 (os : Os) (started : os.Started) (H : Type) (enc : TypeId × Value → H) :
    ReturnsInHanded {} Tryz.checked os 7 .any (Rows.topMemorySpec.pre6 enc Tryz.prog Tryz.f7 Rows.topMemoryRow.domain false) (Rows.topMemorySpec.post enc Tryz.prog Tryz.f7 false true false false) := by
  refine returnsInHanded_of_change_sized (C := Tryz.checked) Facts.own started (by kernel_rfl) Tryz.func7
    (ChangeSpec.witness6 (enc := enc) (C := Tryz.checked) false ⟨#[], #[.slice none 0 0], []⟩ 8 (by kernel_rfl) (by kernel_rfl) (by kernel_rfl) (by kernel_rfl)) ?_
  intro W base args ds gs before hval0 hW hcnd hz0 _
  have hval : ∀ (j : Nat) t v, Tryz.f7.params[j]? = some t → args[j]? = some v → Value.okWide Tryz.prog W .any base t v := hval0
  have hz : ∀ (j : Nat) t d, Tryz.f7.params.toList[j]? = some t → ds[j]? = some d → Wt 140737488351232 Tryz.prog t d := fun j t d h1 h2 n hn => of_decide_eq_true (List.all_eq_true.1 hz0 n (DataW.weights_mem_each (zacy h1) (zacy h2) n hn))
  have hW' := hW
  obtain ⟨p, q, hA0, hV, hbf, hfz, hnd⟩ := hW
  have hA : DataW.TrodAll enc Tryz.prog W 0 (fun _ => true) true Tryz.f7.params.toList args.toList ds p := hA0
  rw [Tryz.params7] at hA hval hz
  obtain ⟨v0, vs0, d0, ds0, p0, q0, hargs, rfl, hp0, h0, r0⟩ := trodAll_cons hA
  obtain ⟨rfl, rfl, hp⟩ := trodAll_nil r0
  obtain rfl : args = #[v0] := by cases args; simp_all
  obtain ⟨rfl, rfl⟩ := trodVars_none hV
  obtain ⟨a0, A0, o0⟩ := (zagv op_deeds_22 ⟨.slice 29, by kernel_rfl, by rfl⟩) H enc W base _ _ v0 d0 p0 (hval 0 22 v0 rfl rfl) h0 (hz 0 22 d0 rfl rfl) (cx0 W) rfl (zayp W)
  refine (zakd z03 (.cons A0 .nil) (c := ⟨Bool, zi4 a0, default, fun r => (tuple ((qr_top_TopMemory.e r).take 1)).re (zwk [] 0 0), fun r => zvo [] 0 0 0 (zbf [] ((qr_top_TopMemory.e r).drop 1))⟩) (by kernel_rfl) (r := true) (ptl a0 o0) (by rfl) (by rfl)).mono fun e W' ⟨he, hb⟩ => ⟨_, he, ?_⟩
  exact zake Facts.laid hW' hA0 (hbf.trans (List.append_nil _)) rfl rfl (by kernel_rfl) (by kernel_rfl) rfl rfl (by rw [Tryz.params7]; intro t ht; simp only [List.mem_cons, List.mem_nil_iff, or_false] at ht; (try rcases ht with rfl) <;> exact ⟨by kernel_rfl, of_decide_eq_true (by kernel_rfl)⟩) hb
set_option maxHeartbeats 1000000 in
theorem joined7 : joinedFacts Tryz.prog 7 Tryz.f7 Rows.topMemorySpec Rows.topMemoryRow = true := by
  unfold joinedFacts
  rw [Facts.laid, Facts.maps, Facts.stops, Facts.stopKnobs, Facts.heard, Facts.plainKeys, Facts.mayEnter, Facts.lifts, Facts.make]
  simp only [yy7]
  repeat' apply And.intro
  all_goals first | (with_reducible exact True.intro) | (as_aux_lemma => kernel_rfl)
theorem over7 : Rows.topMemoryRow.holds Tryz.pinned (OpenSpec.ofChange Rows.topMemorySpec) :=
  OpenClaim.holds_of_wide 7 Tryz.f7 rfl rfl rfl rfl rfl rfl rfl ⟨rfl, rfl, rfl, rfl, rfl⟩ rfl rfl rfl rfl rfl (by as_aux_lemma => kernel_rfl) Tryz.func7 joined7
    (of_decide_eq_true (by kernel_rfl)) (by unfold Func.isWrapper; first | (rw [if_pos (by decide +kernel)]; kernel_rfl) | (rw [if_neg (by decide +kernel)]; exact ⟨rfl, rfl⟩))
    (fun os started H enc _ => lifted7 os started H enc)
theorem provedTopMemory : Rows.TopMemorySaid :=
  over7
end Go.Proofs.YtiacgjebngnddaaGreat.Ab
