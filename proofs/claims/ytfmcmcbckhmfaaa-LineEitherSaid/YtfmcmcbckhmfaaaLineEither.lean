/-
  LineEither: the law answers true for every input.
-/
import Derived.Test.YtfmcmcbckhmfaaaAbOpen
import Derived.Test.YtfmcmcbckhmfaaaFacts
import Derived.Test.YtfmcmcbckhmfaaaPlLine
namespace Go.Proofs.Ytfmcmcbckhmfaaa.Ab
open Go Go.RowKit Go.WideShapes Go.ChangeShapes Go.ChangeAt
set_option linter.unusedSimpArgs false
set_option linter.unusedVariables false
set_option maxRecDepth 100000

def ok_Line (x : Line) : Prop := (fun l : (List ByteArray) => l.length ≤ 9223372036854775807 ∧ l.length * 16 ≤ 140737488351232 ∧ ∀ a, a ∈ l → (fun s : ByteArray => s.size ≤ 140737488351232) a) x.Said ∧ (fun l : (List Int) => l.length ≤ 9223372036854775807 ∧ l.length * 8 ≤ 140737488351232 ∧ ∀ a, a ∈ l → i64 a) x.Due ∧ i64 x.Got ∧ (fun _ => True) x.Closed
theorem op_str_9 : OpenT Try.prog 9 (fun a => [strP.e a]) (fun s : ByteArray => s.size ≤ 140737488351232) := open_s (by kernel_rfl)
theorem op_strs_34 : OpenT Try.prog 34 (fun a => [strsP.e a]) (fun l : (List ByteArray) => l.length ≤ 9223372036854775807 ∧ l.length * 16 ≤ 140737488351232 ∧ ∀ a, a ∈ l → (fun s : ByteArray => s.size ≤ 140737488351232) a) := open_sl .strs .empty (fun a => [strP.e a]) (by kernel_rfl) (by kernel_rfl) op_str_9 (fun _ => rfl) (fun _ => by kernel_rfl) (fun _ _ => rfl)
theorem op_int_3 : OpenT Try.prog 3 (fun a => [intP.e a]) i64 := open_i (by kernel_rfl)
theorem op_ints_31 : OpenT Try.prog 31 (fun a => [intsP.e a]) (fun l : (List Int) => l.length ≤ 9223372036854775807 ∧ l.length * 8 ≤ 140737488351232 ∧ ∀ a, a ∈ l → i64 a) := open_sl .ints 0 (fun a => [intP.e a]) (by kernel_rfl) (by kernel_rfl) op_int_3 (fun _ => rfl) (fun _ => by kernel_rfl) (fun _ _ => rfl)
theorem op_bool_4 : OpenT Try.prog 4 (fun a => [boolP.e a]) (fun _ => True) := open_b (by kernel_rfl)
theorem op_Line_36 : OpenT Try.prog 36 lineL.e ok_Line := open_map (open_fields [(0, 34), (1, 31), (2, 3), (3, 4)] (by kernel_rfl) (by kernel_rfl) (openTs_cons (c := 1) (by kernel_rfl) op_strs_34 (openTs_cons (c := 1) (by kernel_rfl) op_ints_31 (openTs_cons (c := 1) (by kernel_rfl) op_int_3 (openTs_cons (c := 1) (by kernel_rfl) op_bool_4 openTs_nil))))) (fun x : (List ByteArray) × (List Int) × Int × Bool × Unit => (⟨x.1, x.2.1, x.2.2.1, x.2.2.2.1⟩ : Line)) (fun _ => rfl) (fun _ h => ⟨h.1, h.2.1, h.2.2.1, h.2.2.2.1⟩)
theorem ptl (a0 : Line) (a1 : Int) (a2 : ByteArray) (a3 a4 a5 : Int) (_ : ok_Line a0) (_ : i64 a1) (_ : a2.size ≤ 140737488351232) (_ : i64 a3) (_ : i64 a4) (_ : i64 a5) : sh_keep_LineEither a0 a1 a2 a3 a4 a5 = some true := pl_LineEither _ _ _ _ _ _
set_option maxRecDepth 100000 in
theorem lifted14 (os : Os) (started : os.Started) (H : Type) (enc : TypeId × Value → H) :
    ReturnsInHanded {} Try.checked os 14 .any (Rows.lineEitherSpec.pre6 enc Try.prog Try.f14 Rows.lineEitherRow.domain false) (Rows.lineEitherSpec.post enc Try.prog Try.f14 false true false false) := by
  refine returnsInHanded_of_change_sized (C := Try.checked) Facts.own started (by kernel_rfl) Try.func14
    (ChangeSpec.witness6 (enc := enc) (C := Try.checked) false ⟨#[], #[.agg #[.slice none 0 0, .slice none 0 0, .int .i64 0, .bool false], .int .i64 0, .string ⟨#[]⟩, .int .i64 0, .int .i64 0, .int .i64 0], []⟩ 8 (by kernel_rfl) (by kernel_rfl) (by kernel_rfl) (by kernel_rfl)) ?_
  intro W base args ds gs before hval0 hW hcnd hz0 _
  have hval : ∀ (j : Nat) t v, Try.f14.params[j]? = some t → args[j]? = some v → Value.okWide Try.prog W .any base t v := hval0
  have hz : ∀ (j : Nat) t d, Try.f14.params.toList[j]? = some t → ds[j]? = some d → Wt Try.prog t d := fun j t d h1 h2 n hn => of_decide_eq_true (List.all_eq_true.1 hz0 n (DataW.weights_mem_each (get_left h1) (get_left h2) n hn))
  have hW' := hW
  obtain ⟨p, q, hA0, hV, hbf, hfz, hnd⟩ := hW
  have hA : DataW.TrodAll enc Try.prog W 0 (fun _ => true) true Try.f14.params.toList args.toList ds p := hA0
  rw [Try.params14] at hA hval hz
  obtain ⟨v0, vs0, d0, ds0, p0, q0, hargs, rfl, hp0, h0, r0⟩ := trodAll_cons hA
  obtain ⟨v1, vs1, d1, ds1, p1, q1, rfl, rfl, hp1, h1, r1⟩ := trodAll_cons r0
  obtain ⟨v2, vs2, d2, ds2, p2, q2, rfl, rfl, hp2, h2, r2⟩ := trodAll_cons r1
  obtain ⟨v3, vs3, d3, ds3, p3, q3, rfl, rfl, hp3, h3, r3⟩ := trodAll_cons r2
  obtain ⟨v4, vs4, d4, ds4, p4, q4, rfl, rfl, hp4, h4, r4⟩ := trodAll_cons r3
  obtain ⟨v5, vs5, d5, ds5, p5, q5, rfl, rfl, hp5, h5, r5⟩ := trodAll_cons r4
  obtain ⟨rfl, rfl, hp⟩ := trodAll_nil r5
  obtain rfl : args = #[v0, v1, v2, v3, v4, v5] := by cases args; simp_all
  obtain ⟨rfl, rfl⟩ := trodVars_none hV
  obtain ⟨a0, A0, o0⟩ := (openA_ag op_Line_36 (by kernel_rfl)) H enc W base _ _ v0 d0 p0 (hval 0 36 v0 rfl rfl) h0 (hz 0 36 d0 rfl rfl) (cx0 W) rfl (cx0_L W)
  obtain ⟨a1, A1, o1⟩ := (openA_one op_int_3 ⟨.int .i64, by kernel_rfl, by rfl⟩) H enc W base _ _ v1 d1 p1 (hval 1 3 v1 rfl rfl) h1 (hz 1 3 d1 rfl rfl) (cx0 W) rfl (cx0_L W)
  obtain ⟨a2, A2, o2⟩ := (openA_one op_str_9 ⟨.string, by kernel_rfl, by rfl⟩) H enc W base _ _ v2 d2 p2 (hval 2 9 v2 rfl rfl) h2 (hz 2 9 d2 rfl rfl) (cx0 W) rfl (cx0_L W)
  obtain ⟨a3, A3, o3⟩ := (openA_one op_int_3 ⟨.int .i64, by kernel_rfl, by rfl⟩) H enc W base _ _ v3 d3 p3 (hval 3 3 v3 rfl rfl) h3 (hz 3 3 d3 rfl rfl) (cx0 W) rfl (cx0_L W)
  obtain ⟨a4, A4, o4⟩ := (openA_one op_int_3 ⟨.int .i64, by kernel_rfl, by rfl⟩) H enc W base _ _ v4 d4 p4 (hval 4 3 v4 rfl rfl) h4 (hz 4 3 d4 rfl rfl) (cx0 W) rfl (cx0_L W)
  obtain ⟨a5, A5, o5⟩ := (openA_one op_int_3 ⟨.int .i64, by kernel_rfl, by rfl⟩) H enc W base _ _ v5 d5 p5 (hval 5 3 v5 rfl rfl) h5 (hz 5 3 d5 rfl rfl) (cx0 W) rfl (cx0_L W)
  refine (law_tree ok_keep_LineEither (.cons A0 (.cons A1 (.cons A2 (.cons A3 (.cons A4 (.cons A5 .nil)))))) (c := ⟨Bool, sh_keep_LineEither a0 a1 a2 a3 a4 a5, default, fun r => (tuple ((qr_keep_LineEither.e r).take 1)).re (backF [] 0 0), fun r => backBs [] 0 0 0 (unflatB [] ((qr_keep_LineEither.e r).drop 1))⟩) (by kernel_rfl) (r := true) (ptl a0 a1 a2 a3 a4 a5 o0 o1 o2 o3 o4 o5) (by rfl) (by rfl)).mono fun e W' ⟨he, hb⟩ => ⟨_, he, ?_⟩
  exact law_post Facts.laid hW' hA0 (hbf.trans (List.append_nil _)) rfl rfl (by kernel_rfl) (by kernel_rfl) rfl rfl (by rw [Try.params14]; intro t ht; simp only [List.mem_cons, List.mem_nil_iff, or_false] at ht; (try rcases ht with rfl | rfl | rfl | rfl | rfl | rfl) <;> exact ⟨by kernel_rfl, of_decide_eq_true (by kernel_rfl)⟩) hb

theorem joined14 : joinedFacts Try.prog 14 Try.f14 Rows.lineEitherSpec Rows.lineEitherRow = true := by
  unfold joinedFacts
  rw [Facts.laid, Facts.maps, Facts.stops, Facts.stopKnobs, Facts.heard, Facts.plainKeys, Facts.mayEnter, Facts.lifts, Facts.make]
  simp only [Bool.and_eq_true]
  repeat' apply And.intro
  all_goals first | (with_reducible exact True.intro) | (as_aux_lemma => kernel_rfl)

theorem over14 : Rows.lineEitherRow.holds Try.pinned (OpenSpec.ofChange Rows.lineEitherSpec) :=
  OpenClaim.holds_of_wide 14 Try.f14 rfl rfl rfl rfl rfl rfl rfl ⟨rfl, rfl, rfl, rfl, rfl⟩ rfl rfl rfl rfl rfl (by as_aux_lemma => kernel_rfl) Try.func14 joined14
    (of_decide_eq_true (by kernel_rfl)) (by unfold Func.isWrapper; first | (rw [if_pos (by decide +kernel)]; kernel_rfl) | (rw [if_neg (by decide +kernel)]; exact ⟨rfl, rfl⟩))
    (fun os started H enc _ => lifted14 os started H enc)

theorem provedLineEither : Rows.LineEitherSaid :=
  over14

end Go.Proofs.Ytfmcmcbckhmfaaa.Ab
