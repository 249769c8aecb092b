/-
  StakeSlashed: the law answers true for every input.
-/
import Derived.Test.YtbpehnghffljiaaAbOpen
import Derived.Test.YtbpehnghffljiaaFacts
import Derived.Test.YtbpehnghffljiaaPlStake8
namespace Go.Proofs.Ytbpehnghffljiaa.Ab
open Go Go.RowKit Go.WideShapes Go.ChangeShapes Go.ChangeAt
set_option linter.unusedSimpArgs false
set_option linter.unusedVariables false
set_option maxRecDepth 100000

def ok_A4_int (x : (A4 Int)) : Prop := i64 x.x0 ∧ i64 x.x1 ∧ i64 x.x2 ∧ i64 x.x3
def ok_Bank (x : Bank) : Prop := ok_A4_int x.Free ∧ i64 x.Bonded ∧ i64 x.Waiting ∧ i64 x.Burnt
def ok_Validator (x : Validator) : Prop := i64 x.Tokens ∧ i64 x.Shares ∧ i64 x.Lost ∧ (fun _ => True) x.Jailed ∧ (fun _ => True) x.Dead
def ok_A6_Validator (x : (A6 Validator)) : Prop := ok_Validator x.x0 ∧ ok_Validator x.x1 ∧ ok_Validator x.x2 ∧ ok_Validator x.x3 ∧ ok_Validator x.x4 ∧ ok_Validator x.x5
def ok_Validators (x : Validators) : Prop := ok_A6_Validator ⟨⟨x.Tokens.x0, x.Shares.x0, x.Lost.x0, x.Jailed.x0, x.Dead.x0⟩, ⟨x.Tokens.x1, x.Shares.x1, x.Lost.x1, x.Jailed.x1, x.Dead.x1⟩, ⟨x.Tokens.x2, x.Shares.x2, x.Lost.x2, x.Jailed.x2, x.Dead.x2⟩, ⟨x.Tokens.x3, x.Shares.x3, x.Lost.x3, x.Jailed.x3, x.Dead.x3⟩, ⟨x.Tokens.x4, x.Shares.x4, x.Lost.x4, x.Jailed.x4, x.Dead.x4⟩, ⟨x.Tokens.x5, x.Shares.x5, x.Lost.x5, x.Jailed.x5, x.Dead.x5⟩⟩
def ok_A6_int (x : (A6 Int)) : Prop := i64 x.x0 ∧ i64 x.x1 ∧ i64 x.x2 ∧ i64 x.x3 ∧ i64 x.x4 ∧ i64 x.x5
def ok_A4_A6_int (x : (A4 (A6 Int))) : Prop := ok_A6_int x.x0 ∧ ok_A6_int x.x1 ∧ ok_A6_int x.x2 ∧ ok_A6_int x.x3
def ok_Wait (x : Wait) : Prop := i64 x.Number ∧ i64 x.D ∧ i64 x.V ∧ i64 x.Amount ∧ i64 x.Height ∧ i64 x.Due ∧ i64 x.h0 ∧ i64 x.h1
def ok_Stake (x : Stake) : Prop := ok_Bank x.Bank ∧ ok_Validators x.Validators ∧ ok_A4_A6_int x.Shares ∧ (fun l : (List Wait) => l.length ≤ 9223372036854775807 ∧ l.length * 64 ≤ 140737488351232 ∧ ∀ a, a ∈ l → ok_Wait a) x.Waits ∧ i64 x.Next
theorem op_int_3 : OpenT 140737488351232 Try.prog 3 (fun a => [intP.e a]) i64 := open_i (by kernel_rfl)
theorem op_A4_int_22 : OpenT 140737488351232 Try.prog 22 (a4L (LP.one intP)).e ok_A4_int := open_map (open_array (E := 3) (n := 4) [(0, 3), (1, 3), (2, 3), (3, 3)] default (by kernel_rfl) (by kernel_rfl) (by kernel_rfl) (openTs_cons (c := 1) (by kernel_rfl) op_int_3 (openTs_cons (c := 1) (by kernel_rfl) op_int_3 (openTs_cons (c := 1) (by kernel_rfl) op_int_3 (openTs_cons (c := 1) (by kernel_rfl) op_int_3 openTs_nil))))) (fun x : Int × Int × Int × Int × Unit => (⟨x.1, x.2.1, x.2.2.1, x.2.2.2.1⟩ : (A4 Int))) (fun _ => rfl) (fun _ h => ⟨h.1, h.2.1, h.2.2.1, h.2.2.2.1⟩)
theorem op_Bank_24 : OpenT 140737488351232 Try.prog 24 bankL.e ok_Bank := open_map (open_fields [(0, 22), (4, 3), (5, 3), (6, 3)] (by kernel_rfl) (by kernel_rfl) (openTs_cons (c := 4) (by kernel_rfl) op_A4_int_22 (openTs_cons (c := 1) (by kernel_rfl) op_int_3 (openTs_cons (c := 1) (by kernel_rfl) op_int_3 (openTs_cons (c := 1) (by kernel_rfl) op_int_3 openTs_nil))))) (fun x : (A4 Int) × Int × Int × Int × Unit => (⟨x.1, x.2.1, x.2.2.1, x.2.2.2.1⟩ : Bank)) (fun _ => rfl) (fun _ h => ⟨h.1, h.2.1, h.2.2.1, h.2.2.2.1⟩)
theorem op_bool_4 : OpenT 140737488351232 Try.prog 4 (fun a => [boolP.e a]) (fun _ => True) := open_b (by kernel_rfl)
theorem op_Validator_26 : OpenT 140737488351232 Try.prog 26 validatorL.e ok_Validator := open_map (open_fields [(0, 3), (1, 3), (2, 3), (3, 4), (4, 4)] (by kernel_rfl) (by kernel_rfl) (openTs_cons (c := 1) (by kernel_rfl) op_int_3 (openTs_cons (c := 1) (by kernel_rfl) op_int_3 (openTs_cons (c := 1) (by kernel_rfl) op_int_3 (openTs_cons (c := 1) (by kernel_rfl) op_bool_4 (openTs_cons (c := 1) (by kernel_rfl) op_bool_4 openTs_nil)))))) (fun x : Int × Int × Int × Bool × Bool × Unit => (⟨x.1, x.2.1, x.2.2.1, x.2.2.2.1, x.2.2.2.2.1⟩ : Validator)) (fun _ => rfl) (fun _ h => ⟨h.1, h.2.1, h.2.2.1, h.2.2.2.1, h.2.2.2.2.1⟩)
theorem op_A6_Validator_27 : OpenT 140737488351232 Try.prog 27 (a6L validatorL).e ok_A6_Validator := open_map (open_array (E := 26) (n := 6) [(0, 26), (5, 26), (10, 26), (15, 26), (20, 26), (25, 26)] default (by kernel_rfl) (by kernel_rfl) (by kernel_rfl) (openTs_cons (c := 5) (by kernel_rfl) op_Validator_26 (openTs_cons (c := 5) (by kernel_rfl) op_Validator_26 (openTs_cons (c := 5) (by kernel_rfl) op_Validator_26 (openTs_cons (c := 5) (by kernel_rfl) op_Validator_26 (openTs_cons (c := 5) (by kernel_rfl) op_Validator_26 (openTs_cons (c := 5) (by kernel_rfl) op_Validator_26 openTs_nil))))))) (fun x : Validator × Validator × Validator × Validator × Validator × Validator × Unit => (⟨x.1, x.2.1, x.2.2.1, x.2.2.2.1, x.2.2.2.2.1, x.2.2.2.2.2.1⟩ : (A6 Validator))) (fun _ => rfl) (fun _ h => ⟨h.1, h.2.1, h.2.2.1, h.2.2.2.1, h.2.2.2.2.1, h.2.2.2.2.2.1⟩)
theorem op_Validators_27 : OpenT 140737488351232 Try.prog 27 validatorsL.e ok_Validators := open_map op_A6_Validator_27 (fun a : (A6 Validator) => (⟨⟨a.x0.Tokens, a.x1.Tokens, a.x2.Tokens, a.x3.Tokens, a.x4.Tokens, a.x5.Tokens⟩, ⟨a.x0.Shares, a.x1.Shares, a.x2.Shares, a.x3.Shares, a.x4.Shares, a.x5.Shares⟩, ⟨a.x0.Lost, a.x1.Lost, a.x2.Lost, a.x3.Lost, a.x4.Lost, a.x5.Lost⟩, ⟨a.x0.Jailed, a.x1.Jailed, a.x2.Jailed, a.x3.Jailed, a.x4.Jailed, a.x5.Jailed⟩, ⟨a.x0.Dead, a.x1.Dead, a.x2.Dead, a.x3.Dead, a.x4.Dead, a.x5.Dead⟩⟩ : Validators)) (fun _ => rfl) (fun _ h => h)
theorem op_A6_int_28 : OpenT 140737488351232 Try.prog 28 (a6L (LP.one intP)).e ok_A6_int := open_map (open_array (E := 3) (n := 6) [(0, 3), (1, 3), (2, 3), (3, 3), (4, 3), (5, 3)] default (by kernel_rfl) (by kernel_rfl) (by kernel_rfl) (openTs_cons (c := 1) (by kernel_rfl) op_int_3 (openTs_cons (c := 1) (by kernel_rfl) op_int_3 (openTs_cons (c := 1) (by kernel_rfl) op_int_3 (openTs_cons (c := 1) (by kernel_rfl) op_int_3 (openTs_cons (c := 1) (by kernel_rfl) op_int_3 (openTs_cons (c := 1) (by kernel_rfl) op_int_3 openTs_nil))))))) (fun x : Int × Int × Int × Int × Int × Int × Unit => (⟨x.1, x.2.1, x.2.2.1, x.2.2.2.1, x.2.2.2.2.1, x.2.2.2.2.2.1⟩ : (A6 Int))) (fun _ => rfl) (fun _ h => ⟨h.1, h.2.1, h.2.2.1, h.2.2.2.1, h.2.2.2.2.1, h.2.2.2.2.2.1⟩)
theorem op_A4_A6_int_29 : OpenT 140737488351232 Try.prog 29 (a4L (a6L (LP.one intP))).e ok_A4_A6_int := open_map (open_array (E := 28) (n := 4) [(0, 28), (6, 28), (12, 28), (18, 28)] default (by kernel_rfl) (by kernel_rfl) (by kernel_rfl) (openTs_cons (c := 6) (by kernel_rfl) op_A6_int_28 (openTs_cons (c := 6) (by kernel_rfl) op_A6_int_28 (openTs_cons (c := 6) (by kernel_rfl) op_A6_int_28 (openTs_cons (c := 6) (by kernel_rfl) op_A6_int_28 openTs_nil))))) (fun x : (A6 Int) × (A6 Int) × (A6 Int) × (A6 Int) × Unit => (⟨x.1, x.2.1, x.2.2.1, x.2.2.2.1⟩ : (A4 (A6 Int)))) (fun _ => rfl) (fun _ h => ⟨h.1, h.2.1, h.2.2.1, h.2.2.2.1⟩)
def ok_A2_int (x : (A2 Int)) : Prop := i64 x.x0 ∧ i64 x.x1
theorem op_A2_int_49 : OpenT 140737488351232 Try.prog 49 (a2L (LP.one intP)).e ok_A2_int := open_map (open_array (E := 3) (n := 2) [(0, 3), (1, 3)] default (by kernel_rfl) (by kernel_rfl) (by kernel_rfl) (openTs_cons (c := 1) (by kernel_rfl) op_int_3 (openTs_cons (c := 1) (by kernel_rfl) op_int_3 openTs_nil))) (fun x : Int × Int × Unit => (⟨x.1, x.2.1⟩ : (A2 Int))) (fun _ => rfl) (fun _ h => ⟨h.1, h.2.1⟩)
theorem op_Wait_51 : OpenT 140737488351232 Try.prog 51 waitL.e ok_Wait := open_map (open_fields [(0, 3), (1, 3), (2, 3), (3, 3), (4, 3), (5, 3), (6, 49)] (by kernel_rfl) (by kernel_rfl) (openTs_cons (c := 1) (by kernel_rfl) op_int_3 (openTs_cons (c := 1) (by kernel_rfl) op_int_3 (openTs_cons (c := 1) (by kernel_rfl) op_int_3 (openTs_cons (c := 1) (by kernel_rfl) op_int_3 (openTs_cons (c := 1) (by kernel_rfl) op_int_3 (openTs_cons (c := 1) (by kernel_rfl) op_int_3 (openTs_cons (c := 2) (by kernel_rfl) op_A2_int_49 openTs_nil)))))))) (fun x : Int × Int × Int × Int × Int × Int × (A2 Int) × Unit => (⟨x.1, x.2.1, x.2.2.1, x.2.2.2.1, x.2.2.2.2.1, x.2.2.2.2.2.1, x.2.2.2.2.2.2.1.x0, x.2.2.2.2.2.2.1.x1⟩ : Wait)) (fun _ => rfl) (fun _ h => ⟨h.1, h.2.1, h.2.2.1, h.2.2.2.1, h.2.2.2.2.1, h.2.2.2.2.2.1, h.2.2.2.2.2.2.1.1, h.2.2.2.2.2.2.1.2⟩)
theorem op_waits_30 : OpenT 140737488351232 Try.prog 30 (fun a => [waitsP.e a]) (fun l : (List Wait) => l.length ≤ 9223372036854775807 ∧ l.length * 64 ≤ 140737488351232 ∧ ∀ a, a ∈ l → ok_Wait a) := open_sl .waits default waitL.e (by kernel_rfl) (by kernel_rfl) op_Wait_51 (fun _ => rfl) (fun _ => by kernel_rfl) (fun _ _ => rfl)
theorem op_Stake_32 : OpenT 140737488351232 Try.prog 32 stakeL.e ok_Stake := open_map (open_fields [(0, 24), (7, 27), (37, 29), (61, 30), (62, 3)] (by kernel_rfl) (by kernel_rfl) (openTs_cons (c := 7) (by kernel_rfl) op_Bank_24 (openTs_cons (c := 30) (by kernel_rfl) op_Validators_27 (openTs_cons (c := 24) (by kernel_rfl) op_A4_A6_int_29 (openTs_cons (c := 1) (by kernel_rfl) op_waits_30 (openTs_cons (c := 1) (by kernel_rfl) op_int_3 openTs_nil)))))) (fun x : Bank × Validators × (A4 (A6 Int)) × (List Wait) × Int × Unit => (⟨x.1, x.2.1, x.2.2.1, x.2.2.2.1, x.2.2.2.2.1⟩ : Stake)) (fun _ => rfl) (fun _ h => ⟨h.1, h.2.1, h.2.2.1, h.2.2.2.1, h.2.2.2.2.1⟩)
theorem ptl {p : Prop} (a0 : Stake) (a1 a2 a3 : Int) (_ : p) (_ : i64 a1) (_ : i64 a2) (_ : i64 a3) : sh_keep_StakeSlashed a0 a1 a2 a3 = some true := pl_StakeSlashed
set_option maxRecDepth 100000 in
theorem lifted13 (os : Os) (started : os.Started) (H : Type) (enc : TypeId × Value → H) :
    ReturnsInHanded {} Try.checked os 13 .any (Rows.stakeSlashedSpec.pre6 enc Try.prog Try.f13 Rows.stakeSlashedRow.domain false) (Rows.stakeSlashedSpec.post enc Try.prog Try.f13 false true false false) := by
  refine returnsInHanded_of_change_sized (C := Try.checked) Facts.own started (by kernel_rfl) Try.func13
    (ChangeSpec.witness6 (enc := enc) (C := Try.checked) false ⟨#[], #[.agg #[.int .i64 0, .int .i64 0, .int .i64 0, .int .i64 0, .int .i64 0, .int .i64 0, .int .i64 0, .int .i64 0, .int .i64 0, .int .i64 0, .bool false, .bool false, .int .i64 0, .int .i64 0, .int .i64 0, .bool false, .bool false, .int .i64 0, .int .i64 0, .int .i64 0, .bool false, .bool false, .int .i64 0, .int .i64 0, .int .i64 0, .bool false, .bool false, .int .i64 0, .int .i64 0, .int .i64 0, .bool false, .bool false, .int .i64 0, .int .i64 0, .int .i64 0, .bool false, .bool false, .int .i64 0, .int .i64 0, .int .i64 0, .int .i64 0, .int .i64 0, .int .i64 0, .int .i64 0, .int .i64 0, .int .i64 0, .int .i64 0, .int .i64 0, .int .i64 0, .int .i64 0, .int .i64 0, .int .i64 0, .int .i64 0, .int .i64 0, .int .i64 0, .int .i64 0, .int .i64 0, .int .i64 0, .int .i64 0, .int .i64 0, .int .i64 0, .slice none 0 0, .int .i64 0], .int .i64 0, .int .i64 0, .int .i64 0], []⟩ 8 (by kernel_rfl) (by kernel_rfl) (by kernel_rfl) (by kernel_rfl)) ?_
  intro W base args ds gs before hval0 hW hcnd hz0 _
  have hval : ∀ (j : Nat) t v, Try.f13.params[j]? = some t → args[j]? = some v → Value.okWide Try.prog W .any base t v := hval0
  have hz : ∀ (j : Nat) t d, Try.f13.params.toList[j]? = some t → ds[j]? = some d → Wt 140737488351232 Try.prog t d := fun j t d h1 h2 n hn => of_decide_eq_true (List.all_eq_true.1 hz0 n (DataW.weights_mem_each (get_left h1) (get_left h2) n hn))
  have hW' := hW
  obtain ⟨p, q, hA0, hV, hbf, hfz, hnd⟩ := hW
  have hA : DataW.TrodAll enc Try.prog W 0 (fun _ => true) true Try.f13.params.toList args.toList ds p := hA0
  rw [Try.params13] at hA hval hz
  obtain ⟨v0, vs0, d0, ds0, p0, q0, hargs, rfl, hp0, h0, r0⟩ := trodAll_cons hA
  obtain ⟨v1, vs1, d1, ds1, p1, q1, rfl, rfl, hp1, h1, r1⟩ := trodAll_cons r0
  obtain ⟨v2, vs2, d2, ds2, p2, q2, rfl, rfl, hp2, h2, r2⟩ := trodAll_cons r1
  obtain ⟨v3, vs3, d3, ds3, p3, q3, rfl, rfl, hp3, h3, r3⟩ := trodAll_cons r2
  obtain ⟨rfl, rfl, hp⟩ := trodAll_nil r3
  obtain rfl : args = #[v0, v1, v2, v3] := by cases args; simp_all
  obtain ⟨rfl, rfl⟩ := trodVars_none hV
  obtain ⟨a0, A0, o0⟩ := (openA_ag op_Stake_32 (by kernel_rfl)) H enc W base _ _ v0 d0 p0 (hval 0 32 v0 rfl rfl) h0 (hz 0 32 d0 rfl rfl) (cx0 W) rfl (cx0_L W)
  obtain ⟨a1, A1, o1⟩ := (openA_one op_int_3 ⟨.int .i64, by kernel_rfl, by rfl⟩) H enc W base _ _ v1 d1 p1 (hval 1 3 v1 rfl rfl) h1 (hz 1 3 d1 rfl rfl) (cx0 W) rfl (cx0_L W)
  obtain ⟨a2, A2, o2⟩ := (openA_one op_int_3 ⟨.int .i64, by kernel_rfl, by rfl⟩) H enc W base _ _ v2 d2 p2 (hval 2 3 v2 rfl rfl) h2 (hz 2 3 d2 rfl rfl) (cx0 W) rfl (cx0_L W)
  obtain ⟨a3, A3, o3⟩ := (openA_one op_int_3 ⟨.int .i64, by kernel_rfl, by rfl⟩) H enc W base _ _ v3 d3 p3 (hval 3 3 v3 rfl rfl) h3 (hz 3 3 d3 rfl rfl) (cx0 W) rfl (cx0_L W)
  refine (law_tree ok_keep_StakeSlashed (.cons A0 (.cons A1 (.cons A2 (.cons A3 .nil)))) (c := ⟨Bool, sh_keep_StakeSlashed a0 a1 a2 a3, default, fun r => (tuple ((qr_keep_StakeSlashed.e r).take 1)).re (backF [] 0 0), fun r => backBs [] 0 0 0 (unflatB [] ((qr_keep_StakeSlashed.e r).drop 1))⟩) (by kernel_rfl) (r := true) (ptl a0 a1 a2 a3 o0 o1 o2 o3) (by rfl) (by rfl)).mono fun e W' ⟨he, hb⟩ => ⟨_, he, ?_⟩
  exact law_post Facts.laid hW' hA0 (hbf.trans (List.append_nil _)) rfl rfl (by kernel_rfl) (by kernel_rfl) rfl rfl (by rw [Try.params13]; intro t ht; simp only [List.mem_cons, List.mem_nil_iff, or_false] at ht; (try rcases ht with rfl | rfl | rfl | rfl) <;> exact ⟨by kernel_rfl, of_decide_eq_true (by kernel_rfl)⟩) hb

theorem joined13 : joinedFacts Try.prog 13 Try.f13 Rows.stakeSlashedSpec Rows.stakeSlashedRow = true := by
  unfold joinedFacts
  rw [Facts.laid, Facts.maps, Facts.stops, Facts.stopKnobs, Facts.heard, Facts.plainKeys, Facts.mayEnter, Facts.lifts, Facts.make]
  simp only [Bool.and_eq_true]
  repeat' apply And.intro
  all_goals first | (with_reducible exact True.intro) | (as_aux_lemma => kernel_rfl)

theorem over13 : Rows.stakeSlashedRow.holds Try.pinned (OpenSpec.ofChange Rows.stakeSlashedSpec) :=
  OpenClaim.holds_of_wide 13 Try.f13 rfl rfl rfl rfl rfl rfl rfl ⟨rfl, rfl, rfl, rfl, rfl⟩ rfl rfl rfl rfl rfl (by as_aux_lemma => kernel_rfl) Try.func13 joined13
    (of_decide_eq_true (by kernel_rfl)) (by unfold Func.isWrapper; first | (rw [if_pos (by decide +kernel)]; kernel_rfl) | (rw [if_neg (by decide +kernel)]; exact ⟨rfl, rfl⟩))
    (fun os started H enc _ => lifted13 os started H enc)

theorem provedStakeSlashed : Rows.StakeSlashedSaid :=
  over13

end Go.Proofs.Ytbpehnghffljiaa.Ab
