/-
  BankRound: the law answers true for every input.
-/
import Derived.Test.YtfmcmcbckhmfaaaAbOpen
import Derived.Test.YtfmcmcbckhmfaaaFacts
import Derived.Test.YtfmcmcbckhmfaaaPlBank2
namespace Go.Proofs.Ytfmcmcbckhmfaaa.Ab
open Go Go.RowKit Go.WideShapes Go.ChangeShapes Go.ChangeAt
set_option linter.unusedSimpArgs false
set_option linter.unusedVariables false
set_option maxRecDepth 100000

def ok_A4_int (x : (A4 Int)) : Prop := i64 x.x0 ∧ i64 x.x1 ∧ i64 x.x2 ∧ i64 x.x3
def ok_Bank (x : Bank) : Prop := ok_A4_int x.Free ∧ i64 x.Bonded ∧ i64 x.Waiting ∧ i64 x.Burnt
theorem op_int_3 : OpenT Try.prog 3 (fun a => [intP.e a]) i64 := open_i (by kernel_rfl)
theorem op_A4_int_53 : OpenT Try.prog 53 (a4L (LP.one intP)).e ok_A4_int := open_map (open_array (E := 3) (n := 4) [(0, 3), (1, 3), (2, 3), (3, 3)] default (by kernel_rfl) (by kernel_rfl) (by kernel_rfl) (openTs_cons (c := 1) (by kernel_rfl) op_int_3 (openTs_cons (c := 1) (by kernel_rfl) op_int_3 (openTs_cons (c := 1) (by kernel_rfl) op_int_3 (openTs_cons (c := 1) (by kernel_rfl) op_int_3 openTs_nil))))) (fun x : Int × Int × Int × Int × Unit => (⟨x.1, x.2.1, x.2.2.1, x.2.2.2.1⟩ : (A4 Int))) (fun _ => rfl) (fun _ h => ⟨h.1, h.2.1, h.2.2.1, h.2.2.2.1⟩)
theorem op_Bank_55 : OpenT Try.prog 55 bankL.e ok_Bank := open_map (open_fields [(0, 53), (4, 3), (5, 3), (6, 3)] (by kernel_rfl) (by kernel_rfl) (openTs_cons (c := 4) (by kernel_rfl) op_A4_int_53 (openTs_cons (c := 1) (by kernel_rfl) op_int_3 (openTs_cons (c := 1) (by kernel_rfl) op_int_3 (openTs_cons (c := 1) (by kernel_rfl) op_int_3 openTs_nil))))) (fun x : (A4 Int) × Int × Int × Int × Unit => (⟨x.1, x.2.1, x.2.2.1, x.2.2.2.1⟩ : Bank)) (fun _ => rfl) (fun _ h => ⟨h.1, h.2.1, h.2.2.1, h.2.2.2.1⟩)
theorem ptl (a0 : Bank) (a1 a2 : Int) (_ : ok_Bank a0) (_ : i64 a1) (_ : i64 a2) : sh_keep_BankRound a0 a1 a2 = some true := pl_BankRound
set_option maxRecDepth 100000 in
theorem lifted9 (os : Os) (started : os.Started) (H : Type) (enc : TypeId × Value → H) :
    ReturnsInHanded {} Try.checked os 9 .any (Rows.bankRoundSpec.pre6 enc Try.prog Try.f9 Rows.bankRoundRow.domain false) (Rows.bankRoundSpec.post enc Try.prog Try.f9 false true false false) := by
  refine returnsInHanded_of_change_sized (C := Try.checked) Facts.own started (by kernel_rfl) Try.func9
    (ChangeSpec.witness6 (enc := enc) (C := Try.checked) false ⟨#[], #[.agg #[.int .i64 0, .int .i64 0, .int .i64 0, .int .i64 0, .int .i64 0, .int .i64 0, .int .i64 0], .int .i64 0, .int .i64 0], []⟩ 8 (by kernel_rfl) (by kernel_rfl) (by kernel_rfl) (by kernel_rfl)) ?_
  intro W base args ds gs before hval0 hW hcnd hz0 _
  have hval : ∀ (j : Nat) t v, Try.f9.params[j]? = some t → args[j]? = some v → Value.okWide Try.prog W .any base t v := hval0
  have hz : ∀ (j : Nat) t d, Try.f9.params.toList[j]? = some t → ds[j]? = some d → Wt Try.prog t d := fun j t d h1 h2 n hn => of_decide_eq_true (List.all_eq_true.1 hz0 n (DataW.weights_mem_each (get_left h1) (get_left h2) n hn))
  have hW' := hW
  obtain ⟨p, q, hA0, hV, hbf, hfz, hnd⟩ := hW
  have hA : DataW.TrodAll enc Try.prog W 0 (fun _ => true) true Try.f9.params.toList args.toList ds p := hA0
  rw [Try.params9] at hA hval hz
  obtain ⟨v0, vs0, d0, ds0, p0, q0, hargs, rfl, hp0, h0, r0⟩ := trodAll_cons hA
  obtain ⟨v1, vs1, d1, ds1, p1, q1, rfl, rfl, hp1, h1, r1⟩ := trodAll_cons r0
  obtain ⟨v2, vs2, d2, ds2, p2, q2, rfl, rfl, hp2, h2, r2⟩ := trodAll_cons r1
  obtain ⟨rfl, rfl, hp⟩ := trodAll_nil r2
  obtain rfl : args = #[v0, v1, v2] := by cases args; simp_all
  obtain ⟨rfl, rfl⟩ := trodVars_none hV
  obtain ⟨a0, A0, o0⟩ := (openA_ag op_Bank_55 (by kernel_rfl)) H enc W base _ _ v0 d0 p0 (hval 0 55 v0 rfl rfl) h0 (hz 0 55 d0 rfl rfl) (cx0 W) rfl (cx0_L W)
  obtain ⟨a1, A1, o1⟩ := (openA_one op_int_3 ⟨.int .i64, by kernel_rfl, by rfl⟩) H enc W base _ _ v1 d1 p1 (hval 1 3 v1 rfl rfl) h1 (hz 1 3 d1 rfl rfl) (cx0 W) rfl (cx0_L W)
  obtain ⟨a2, A2, o2⟩ := (openA_one op_int_3 ⟨.int .i64, by kernel_rfl, by rfl⟩) H enc W base _ _ v2 d2 p2 (hval 2 3 v2 rfl rfl) h2 (hz 2 3 d2 rfl rfl) (cx0 W) rfl (cx0_L W)
  refine (law_tree ok_keep_BankRound (.cons A0 (.cons A1 (.cons A2 .nil))) (c := ⟨Bool, sh_keep_BankRound a0 a1 a2, default, fun r => (tuple ((qr_keep_BankRound.e r).take 1)).re (backF [] 0 0), fun r => backBs [] 0 0 0 (unflatB [] ((qr_keep_BankRound.e r).drop 1))⟩) (by kernel_rfl) (r := true) (ptl a0 a1 a2 o0 o1 o2) (by rfl) (by rfl)).mono fun e W' ⟨he, hb⟩ => ⟨_, he, ?_⟩
  exact law_post Facts.laid hW' hA0 (hbf.trans (List.append_nil _)) rfl rfl (by kernel_rfl) (by kernel_rfl) rfl rfl (by rw [Try.params9]; intro t ht; simp only [List.mem_cons, List.mem_nil_iff, or_false] at ht; (try rcases ht with rfl | rfl | rfl) <;> exact ⟨by kernel_rfl, of_decide_eq_true (by kernel_rfl)⟩) hb

theorem joined9 : joinedFacts Try.prog 9 Try.f9 Rows.bankRoundSpec Rows.bankRoundRow = true := by
  unfold joinedFacts
  rw [Facts.laid, Facts.maps, Facts.stops, Facts.stopKnobs, Facts.heard, Facts.plainKeys, Facts.mayEnter, Facts.lifts, Facts.make]
  simp only [Bool.and_eq_true]
  repeat' apply And.intro
  all_goals first | (with_reducible exact True.intro) | (as_aux_lemma => kernel_rfl)

theorem over9 : Rows.bankRoundRow.holds Try.pinned (OpenSpec.ofChange Rows.bankRoundSpec) :=
  OpenClaim.holds_of_wide 9 Try.f9 rfl rfl rfl rfl rfl rfl rfl ⟨rfl, rfl, rfl, rfl, rfl⟩ rfl rfl rfl rfl rfl (by as_aux_lemma => kernel_rfl) Try.func9 joined9
    (of_decide_eq_true (by kernel_rfl)) (by unfold Func.isWrapper; first | (rw [if_pos (by decide +kernel)]; kernel_rfl) | (rw [if_neg (by decide +kernel)]; exact ⟨rfl, rfl⟩))
    (fun os started H enc _ => lifted9 os started H enc)

theorem provedBankRound : Rows.BankRoundSaid :=
  over9

end Go.Proofs.Ytfmcmcbckhmfaaa.Ab
