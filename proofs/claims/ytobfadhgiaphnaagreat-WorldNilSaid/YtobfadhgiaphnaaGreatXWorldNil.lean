/-
  WorldNil: the law answers true for every input.
-/
import Derived.Test.YtobfadhgiaphnaaGreatXAbOpen
import Derived.Test.YtobfadhgiaphnaaGreatXFacts
import Derived.Test.YtobfadhgiaphnaaGreatXPlA
namespace Go.Proofs.YtobfadhgiaphnaaGreat.Ab
open Go Go.RowKit Go.WideShapes Go.ChangeShapes Go.ChangeAt
set_option linter.unusedSimpArgs false
set_option linter.unusedVariables false
set_option maxRecDepth 100000
def ok_Deed (x : Deed) : Prop := i64 x.Kind ∧ i64 x.C ∧ i64 x.D ∧ i64 x.V ∧ i64 x.N ∧ (fun _ => True) x.Back ∧ (fun _ => True) x.Forged
theorem op_int_3 : zeg 140737488351232 Tryz.prog 3 (fun a => [intP.e a]) i64 := zo2 (by kernel_rfl)
theorem op_bool_4 : zeg 140737488351232 Tryz.prog 4 (fun a => [boolP.e a]) (fun _ => True) := zo3 (by kernel_rfl)
theorem op_Deed_28 : zeg 140737488351232 Tryz.prog 28 deedL.e ok_Deed := zmc (zi3 [(0, 3), (1, 3), (2, 3), (3, 3), (4, 3), (5, 4), (6, 4)] (by kernel_rfl) (by kernel_rfl) (zaz (c := 1) (by kernel_rfl) op_int_3 (zaz (c := 1) (by kernel_rfl) op_int_3 (zaz (c := 1) (by kernel_rfl) op_int_3 (zaz (c := 1) (by kernel_rfl) op_int_3 (zaz (c := 1) (by kernel_rfl) op_int_3 (zaz (c := 1) (by kernel_rfl) op_bool_4 (zaz (c := 1) (by kernel_rfl) op_bool_4 zkf)))))))) (fun x : Int × Int × Int × Int × Int × Bool × Bool × Unit => (⟨x.1, x.2.1, x.2.2.1, x.2.2.2.1, x.2.2.2.2.1, x.2.2.2.2.2.1, x.2.2.2.2.2.2.1⟩ : Deed)) (fun _ => rfl) (fun _ h => ⟨h.1, h.2.1, h.2.2.1, h.2.2.2.1, h.2.2.2.2.1, h.2.2.2.2.2.1, h.2.2.2.2.2.2.1⟩)
theorem ptl (d : Deed) (i : Int) (_ : ok_Deed d) (_ : i64 i) : zbc d i = some true := zjg d i
set_option maxRecDepth 100000 in
theorem lifted4 (os : Os) (started : os.Started) (H : Type) (enc : TypeId × Value → H) :
    ReturnsInHanded {} Tryz.checked os 4 .any (Rows.worldNilSpec.pre6 enc Tryz.prog Tryz.f4 Rows.worldNilRow.domain false) (Rows.worldNilSpec.post enc Tryz.prog Tryz.f4 false true false false) := by
  refine returnsInHanded_of_change_sized (C := Tryz.checked) Facts.own started (by kernel_rfl) Tryz.func4
    (ChangeSpec.witness6 (enc := enc) (C := Tryz.checked) false ⟨#[], #[.agg #[.int .i64 0, .int .i64 0, .int .i64 0, .int .i64 0, .int .i64 0, .bool false, .bool false], .int .i64 0], []⟩ 8 (by kernel_rfl) (by kernel_rfl) (by kernel_rfl) (by kernel_rfl)) ?_
  intro W base args ds gs before hval0 hW hcnd hz0 _
  have hval : ∀ (j : Nat) t v, Tryz.f4.params[j]? = some t → args[j]? = some v → Value.okWide Tryz.prog W .any base t v := hval0
  have hz : ∀ (j : Nat) t d, Tryz.f4.params.toList[j]? = some t → ds[j]? = some d → Wt 140737488351232 Tryz.prog t d := fun j t d h1 h2 n hn => of_decide_eq_true (List.all_eq_true.1 hz0 n (DataW.weights_mem_each (zju h1) (zju h2) n hn))
  have hW' := hW
  obtain ⟨p, q, hA0, hV, hbf, hfz, hnd⟩ := hW
  have hA : DataW.TrodAll enc Tryz.prog W 0 (fun _ => true) true Tryz.f4.params.toList args.toList ds p := hA0
  rw [Tryz.params4] at hA hval hz
  obtain ⟨v0, vs0, d0, ds0, p0, q0, hargs, rfl, hp0, h0, r0⟩ := trodAll_cons hA
  obtain ⟨v1, vs1, d1, ds1, p1, q1, rfl, rfl, hp1, h1, r1⟩ := trodAll_cons r0
  obtain ⟨rfl, rfl, hp⟩ := trodAll_nil r1
  obtain rfl : args = #[v0, v1] := by cases args; simp_all
  obtain ⟨rfl, rfl⟩ := trodVars_none hV
  obtain ⟨a0, A0, o0⟩ := (zmd op_Deed_28 (by kernel_rfl)) H enc W base _ _ v0 d0 p0 (hval 0 28 v0 rfl rfl) h0 (hz 0 28 d0 rfl rfl) (cx0 W) rfl (zo4 W)
  obtain ⟨a1, A1, o1⟩ := (zk8 op_int_3 ⟨.int .i64, by kernel_rfl, by rfl⟩) H enc W base _ _ v1 d1 p1 (hval 1 3 v1 rfl rfl) h1 (hz 1 3 d1 rfl rfl) (cx0 W) rfl (zo4 W)
  refine (zme zf0 (.cons A0 (.cons A1 .nil)) (c := ⟨Bool, zbc a0 a1, default, fun r => (tuple ((qr_law_WorldNil.e r).take 1)).re (zd2 [] 0 0), fun r => zdp [] 0 0 0 (zz [] ((qr_law_WorldNil.e r).drop 1))⟩) (by kernel_rfl) (r := true) (ptl a0 a1 o0 o1) (by rfl) (by rfl)).mono fun e W' ⟨he, hb⟩ => ⟨_, he, ?_⟩
  exact zmf Facts.laid hW' hA0 (hbf.trans (List.append_nil _)) rfl rfl (by kernel_rfl) (by kernel_rfl) rfl rfl (by rw [Tryz.params4]; intro t ht; simp only [List.mem_cons, List.mem_nil_iff, or_false] at ht; (try rcases ht with rfl | rfl) <;> exact ⟨by kernel_rfl, of_decide_eq_true (by kernel_rfl)⟩) hb
set_option maxHeartbeats 1000000 in
theorem joined4 : joinedFacts Tryz.prog 4 Tryz.f4 Rows.worldNilSpec Rows.worldNilRow = true := by
  unfold joinedFacts
  rw [Facts.laid, Facts.maps, Facts.stops, Facts.stopKnobs, Facts.heard, Facts.plainKeys, Facts.mayEnter, Facts.lifts, Facts.make]
  simp only [Bool.and_eq_true]
  repeat' apply And.intro
  all_goals first | (with_reducible exact True.intro) | (as_aux_lemma => kernel_rfl)
theorem over4 : Rows.worldNilRow.holds Tryz.pinned (OpenSpec.ofChange Rows.worldNilSpec) :=
  OpenClaim.holds_of_wide 4 Tryz.f4 rfl rfl rfl rfl rfl rfl rfl ⟨rfl, rfl, rfl, rfl, rfl⟩ rfl rfl rfl rfl rfl (by as_aux_lemma => kernel_rfl) Tryz.func4 joined4
    (of_decide_eq_true (by kernel_rfl)) (by unfold Func.isWrapper; first | (rw [if_pos (by decide +kernel)]; kernel_rfl) | (rw [if_neg (by decide +kernel)]; exact ⟨rfl, rfl⟩))
    (fun os started H enc _ => lifted4 os started H enc)
theorem provedWorldNil : Rows.WorldNilSaid :=
  over4
end Go.Proofs.YtobfadhgiaphnaaGreat.Ab
