/-
  ConsumerFlags: the law answers true for every input of bulk at most 1048576.
-/
import Derived.Test.YthhdljniheaeoaaAbOpen
import Derived.Test.YthhdljniheaeoaaFacts
import Derived.Test.YthhdljniheaeoaaPlCons5
import Derived.Test.YthhdljniheaeoaaAbBulk
namespace Go.Proofs.Ythhdljniheaeoaa.Ab
open Go Go.RowKit Go.WideShapes Go.ChangeShapes Go.ChangeAt
set_option linter.unusedSimpArgs false
set_option linter.unusedVariables false
set_option maxRecDepth 100000

def ok_Power (x : Power) : Prop := i64 x.V ∧ i64 x.N
def ok_Packet (x : Packet) : Prop := i64 x.Kind ∧ i64 x.Id ∧ i64 x.V ∧ i64 x.N ∧ (fun l : (List Power) => l.length ≤ 9223372036854775807 ∧ l.length * 16 ≤ 4294967296 ∧ ∀ a, a ∈ l → ok_Power a) x.Set ∧ (fun l : (List Int) => l.length ≤ 9223372036854775807 ∧ l.length * 8 ≤ 4294967296 ∧ ∀ a, a ∈ l → i64 a) x.Done
def ok_Ripe (x : Ripe) : Prop := i64 x.Id ∧ i64 x.Due
def ok_A6_bool (x : (A6 Bool)) : Prop := (fun _ => True) x.x0 ∧ (fun _ => True) x.x1 ∧ (fun _ => True) x.x2 ∧ (fun _ => True) x.x3 ∧ (fun _ => True) x.x4 ∧ (fun _ => True) x.x5
def ok_Line (x : Line) : Prop := (fun l : (List ByteArray) => l.length ≤ 9223372036854775807 ∧ l.length * 16 ≤ 4294967296 ∧ ∀ a, a ∈ l → (fun s : ByteArray => s.size ≤ 4294967296) a) x.Said ∧ (fun l : (List Int) => l.length ≤ 9223372036854775807 ∧ l.length * 8 ≤ 4294967296 ∧ ∀ a, a ∈ l → i64 a) x.Due ∧ i64 x.Got ∧ (fun _ => True) x.Closed
def ok_Head (x : Head) : Prop := i64 x.Height ∧ i64 x.Time ∧ i64 x.Said ∧ i64 x.Got
def ok_Consumer (x : Consumer) : Prop := (fun _ => True) x.On ∧ (fun _ => True) x.Gone ∧ i64 x.Height ∧ i64 x.Time ∧ i64 x.Id ∧ (fun l : (List Power) => l.length ≤ 9223372036854775807 ∧ l.length * 16 ≤ 4294967296 ∧ ∀ a, a ∈ l → ok_Power a) x.Set ∧ (fun l : (List Packet) => l.length ≤ 9223372036854775807 ∧ l.length * 80 ≤ 4294967296 ∧ ∀ a, a ∈ l → ok_Packet a) x.Pending ∧ (fun l : (List Ripe) => l.length ≤ 9223372036854775807 ∧ l.length * 16 ≤ 4294967296 ∧ ∀ a, a ∈ l → ok_Ripe a) x.Ripes ∧ ok_A6_bool x.Flags ∧ ok_Line x.Out ∧ ok_Head x.Seen
theorem op_bool_4 : OpenT 4294967296 Try.prog 4 (fun a => [boolP.e a]) (fun _ => True) := open_b (by kernel_rfl)
theorem op_int_3 : OpenT 4294967296 Try.prog 3 (fun a => [intP.e a]) i64 := open_i (by kernel_rfl)
theorem op_Power_52 : OpenT 4294967296 Try.prog 52 powerL.e ok_Power := open_map (open_fields [(0, 3), (1, 3)] (by kernel_rfl) (by kernel_rfl) (openTs_cons (c := 1) (by kernel_rfl) op_int_3 (openTs_cons (c := 1) (by kernel_rfl) op_int_3 openTs_nil))) (fun x : Int × Int × Unit => (⟨x.1, x.2.1⟩ : Power)) (fun _ => rfl) (fun _ h => ⟨h.1, h.2.1⟩)
theorem op_powers_22 : OpenT 4294967296 Try.prog 22 (fun a => [powersP.e a]) (fun l : (List Power) => l.length ≤ 9223372036854775807 ∧ l.length * 16 ≤ 4294967296 ∧ ∀ a, a ∈ l → ok_Power a) := open_sl .powers default powerL.e (by kernel_rfl) (by kernel_rfl) op_Power_52 (fun _ => rfl) (fun _ => by kernel_rfl) (fun _ _ => rfl)
theorem op_ints_28 : OpenT 4294967296 Try.prog 28 (fun a => [intsP.e a]) (fun l : (List Int) => l.length ≤ 9223372036854775807 ∧ l.length * 8 ≤ 4294967296 ∧ ∀ a, a ∈ l → i64 a) := open_sl .ints 0 (fun a => [intP.e a]) (by kernel_rfl) (by kernel_rfl) op_int_3 (fun _ => rfl) (fun _ => by kernel_rfl) (fun _ _ => rfl)
theorem op_Packet_56 : OpenT 4294967296 Try.prog 56 packetL.e ok_Packet := open_map (open_fields [(0, 3), (1, 3), (2, 3), (3, 3), (4, 22), (5, 28)] (by kernel_rfl) (by kernel_rfl) (openTs_cons (c := 1) (by kernel_rfl) op_int_3 (openTs_cons (c := 1) (by kernel_rfl) op_int_3 (openTs_cons (c := 1) (by kernel_rfl) op_int_3 (openTs_cons (c := 1) (by kernel_rfl) op_int_3 (openTs_cons (c := 1) (by kernel_rfl) op_powers_22 (openTs_cons (c := 1) (by kernel_rfl) op_ints_28 openTs_nil))))))) (fun x : Int × Int × Int × Int × (List Power) × (List Int) × Unit => (⟨x.1, x.2.1, x.2.2.1, x.2.2.2.1, x.2.2.2.2.1, x.2.2.2.2.2.1⟩ : Packet)) (fun _ => rfl) (fun _ h => ⟨h.1, h.2.1, h.2.2.1, h.2.2.2.1, h.2.2.2.2.1, h.2.2.2.2.2.1⟩)
theorem op_packets_24 : OpenT 4294967296 Try.prog 24 (fun a => [packetsP.e a]) (fun l : (List Packet) => l.length ≤ 9223372036854775807 ∧ l.length * 80 ≤ 4294967296 ∧ ∀ a, a ∈ l → ok_Packet a) := open_sl .packets default packetL.e (by kernel_rfl) (by kernel_rfl) op_Packet_56 (fun _ => rfl) (fun _ => by kernel_rfl) (fun _ _ => rfl)
theorem op_Ripe_69 : OpenT 4294967296 Try.prog 69 ripeL.e ok_Ripe := open_map (open_fields [(0, 3), (1, 3)] (by kernel_rfl) (by kernel_rfl) (openTs_cons (c := 1) (by kernel_rfl) op_int_3 (openTs_cons (c := 1) (by kernel_rfl) op_int_3 openTs_nil))) (fun x : Int × Int × Unit => (⟨x.1, x.2.1⟩ : Ripe)) (fun _ => rfl) (fun _ h => ⟨h.1, h.2.1⟩)
theorem op_ripes_25 : OpenT 4294967296 Try.prog 25 (fun a => [ripesP.e a]) (fun l : (List Ripe) => l.length ≤ 9223372036854775807 ∧ l.length * 16 ≤ 4294967296 ∧ ∀ a, a ∈ l → ok_Ripe a) := open_sl .ripes default ripeL.e (by kernel_rfl) (by kernel_rfl) op_Ripe_69 (fun _ => rfl) (fun _ => by kernel_rfl) (fun _ _ => rfl)
theorem op_A6_bool_26 : OpenT 4294967296 Try.prog 26 (a6L (LP.one boolP)).e ok_A6_bool := open_map (open_array (E := 4) (n := 6) [(0, 4), (1, 4), (2, 4), (3, 4), (4, 4), (5, 4)] default (by kernel_rfl) (by kernel_rfl) (by kernel_rfl) (openTs_cons (c := 1) (by kernel_rfl) op_bool_4 (openTs_cons (c := 1) (by kernel_rfl) op_bool_4 (openTs_cons (c := 1) (by kernel_rfl) op_bool_4 (openTs_cons (c := 1) (by kernel_rfl) op_bool_4 (openTs_cons (c := 1) (by kernel_rfl) op_bool_4 (openTs_cons (c := 1) (by kernel_rfl) op_bool_4 openTs_nil))))))) (fun x : Bool × Bool × Bool × Bool × Bool × Bool × Unit => (⟨x.1, x.2.1, x.2.2.1, x.2.2.2.1, x.2.2.2.2.1, x.2.2.2.2.2.1⟩ : (A6 Bool))) (fun _ => rfl) (fun _ h => ⟨h.1, h.2.1, h.2.2.1, h.2.2.2.1, h.2.2.2.2.1, h.2.2.2.2.2.1⟩)
theorem op_str_9 : OpenT 4294967296 Try.prog 9 (fun a => [strP.e a]) (fun s : ByteArray => s.size ≤ 4294967296) := open_s (by kernel_rfl)
theorem op_strs_27 : OpenT 4294967296 Try.prog 27 (fun a => [strsP.e a]) (fun l : (List ByteArray) => l.length ≤ 9223372036854775807 ∧ l.length * 16 ≤ 4294967296 ∧ ∀ a, a ∈ l → (fun s : ByteArray => s.size ≤ 4294967296) a) := open_sl .strs .empty (fun a => [strP.e a]) (by kernel_rfl) (by kernel_rfl) op_str_9 (fun _ => rfl) (fun _ => by kernel_rfl) (fun _ _ => rfl)
theorem op_Line_30 : OpenT 4294967296 Try.prog 30 lineL.e ok_Line := open_map (open_fields [(0, 27), (1, 28), (2, 3), (3, 4)] (by kernel_rfl) (by kernel_rfl) (openTs_cons (c := 1) (by kernel_rfl) op_strs_27 (openTs_cons (c := 1) (by kernel_rfl) op_ints_28 (openTs_cons (c := 1) (by kernel_rfl) op_int_3 (openTs_cons (c := 1) (by kernel_rfl) op_bool_4 openTs_nil))))) (fun x : (List ByteArray) × (List Int) × Int × Bool × Unit => (⟨x.1, x.2.1, x.2.2.1, x.2.2.2.1⟩ : Line)) (fun _ => rfl) (fun _ h => ⟨h.1, h.2.1, h.2.2.1, h.2.2.2.1⟩)
theorem op_Head_32 : OpenT 4294967296 Try.prog 32 headL.e ok_Head := open_map (open_fields [(0, 3), (1, 3), (2, 3), (3, 3)] (by kernel_rfl) (by kernel_rfl) (openTs_cons (c := 1) (by kernel_rfl) op_int_3 (openTs_cons (c := 1) (by kernel_rfl) op_int_3 (openTs_cons (c := 1) (by kernel_rfl) op_int_3 (openTs_cons (c := 1) (by kernel_rfl) op_int_3 openTs_nil))))) (fun x : Int × Int × Int × Int × Unit => (⟨x.1, x.2.1, x.2.2.1, x.2.2.2.1⟩ : Head)) (fun _ => rfl) (fun _ h => ⟨h.1, h.2.1, h.2.2.1, h.2.2.2.1⟩)
theorem op_Consumer_34 : OpenT 4294967296 Try.prog 34 consumerL.e ok_Consumer := open_map (open_fields [(0, 4), (1, 4), (2, 3), (3, 3), (4, 3), (5, 22), (6, 24), (7, 25), (8, 26), (14, 30), (18, 32)] (by kernel_rfl) (by kernel_rfl) (openTs_cons (c := 1) (by kernel_rfl) op_bool_4 (openTs_cons (c := 1) (by kernel_rfl) op_bool_4 (openTs_cons (c := 1) (by kernel_rfl) op_int_3 (openTs_cons (c := 1) (by kernel_rfl) op_int_3 (openTs_cons (c := 1) (by kernel_rfl) op_int_3 (openTs_cons (c := 1) (by kernel_rfl) op_powers_22 (openTs_cons (c := 1) (by kernel_rfl) op_packets_24 (openTs_cons (c := 1) (by kernel_rfl) op_ripes_25 (openTs_cons (c := 6) (by kernel_rfl) op_A6_bool_26 (openTs_cons (c := 4) (by kernel_rfl) op_Line_30 (openTs_cons (c := 4) (by kernel_rfl) op_Head_32 openTs_nil)))))))))))) (fun x : Bool × Bool × Int × Int × Int × (List Power) × (List Packet) × (List Ripe) × (A6 Bool) × Line × Head × Unit => (⟨x.1, x.2.1, x.2.2.1, x.2.2.2.1, x.2.2.2.2.1, x.2.2.2.2.2.1, x.2.2.2.2.2.2.1, x.2.2.2.2.2.2.2.1, x.2.2.2.2.2.2.2.2.1, x.2.2.2.2.2.2.2.2.2.1, x.2.2.2.2.2.2.2.2.2.2.1⟩ : Consumer)) (fun _ => rfl) (fun _ h => ⟨h.1, h.2.1, h.2.2.1, h.2.2.2.1, h.2.2.2.2.1, h.2.2.2.2.2.1, h.2.2.2.2.2.2.1, h.2.2.2.2.2.2.2.1, h.2.2.2.2.2.2.2.2.1, h.2.2.2.2.2.2.2.2.2.1, h.2.2.2.2.2.2.2.2.2.2.1⟩)
theorem fit_of {c : Consumer} (o : ok_Consumer c) : FitC 4294967296 c :=
  ⟨o.2.2.2.2.2.1.2.1, o.2.2.2.2.2.2.1.2.1, o.2.2.2.2.2.2.2.1.2.1, o.2.2.2.2.2.2.2.2.2.1.1.2.1, o.2.2.2.2.2.2.2.2.2.1.2.1.2.1,
    fun p hp => ⟨(o.2.2.2.2.2.2.1.2.2 p hp).2.2.2.2.1.2.1, (o.2.2.2.2.2.2.1.2.2 p hp).2.2.2.2.2.2.1⟩⟩
theorem ptl (a0 : Consumer) (a1 a2 : Int) (o0 : ok_Consumer a0) (_ : i64 a1) (_ : i64 a2) : sh_keep_ConsumerFlags a0 a1 a2 = some true := pl_ConsumerFlags (fit_of o0)
set_option maxRecDepth 100000 in
theorem lifted9 (os : Os) (started : os.Started) (H : Type) (enc : TypeId × Value → H) (F : Stop.Interp) :
    ReturnsInHanded {} Try.checked os 9 .any ((Rows.OpenSpec.upto Rows.consumerFlagsSpec).pre6 enc Try.prog Try.f9 Rows.consumerFlagsUptoRow.domain false) (((Rows.OpenSpec.upto Rows.consumerFlagsSpec).at F).post enc Try.prog Try.f9 false true false false) := by
  refine returnsInHanded_of_cond (C := Try.checked) (s := (Rows.OpenSpec.upto Rows.consumerFlagsSpec)) (k := Rows.uptoSmall) rfl Facts.own started (by kernel_rfl) Try.func9
    (OpenSpec.witness (enc := enc) (C := Try.checked) (s := (Rows.OpenSpec.upto Rows.consumerFlagsSpec)) (k := Rows.uptoSmall) rfl false ⟨#[], #[.agg #[.bool false, .bool false, .int .i64 0, .int .i64 0, .int .i64 0, .slice none 0 0, .slice none 0 0, .slice none 0 0, .bool false, .bool false, .bool false, .bool false, .bool false, .bool false, .slice none 0 0, .slice none 0 0, .int .i64 0, .bool false, .int .i64 0, .int .i64 0, .int .i64 0, .int .i64 0], .int .i64 0, .int .i64 0], []⟩ 8 (by kernel_rfl) (by kernel_rfl) (by kernel_rfl)
      (x := ([.agg [.lit (.bool false), .lit (.bool false), .lit (.int .i64 0), .lit (.int .i64 0), .lit (.int .i64 0), .nil, .nil, .nil, .agg [.lit (.bool false), .lit (.bool false), .lit (.bool false), .lit (.bool false), .lit (.bool false), .lit (.bool false)], .agg [.nil, .nil, .lit (.int .i64 0), .lit (.bool false)], .agg [.lit (.int .i64 0), .lit (.int .i64 0), .lit (.int .i64 0), .lit (.int .i64 0)]], .lit (.int .i64 0), .lit (.int .i64 0)], [], [])) (by kernel_rfl) rfl (by kernel_rfl)) ?_
  intro W base args ds gs before hval0 hW hcnd hk0 _
  have hval : ∀ (j : Nat) t v, Try.f9.params[j]? = some t → args[j]? = some v → Value.okWide Try.prog W .any base t v := hval0
  have hz : ∀ (j : Nat) t d, Try.f9.params.toList[j]? = some t → ds[j]? = some d → Nat.blt t Try.prog.types.size = true → Wt 4294967296 Try.prog t d := fun j t d h1 h2 h3 => wt_of_bulk bulk_types hk0 (List.mem_append_left _ (List.mem_of_getElem? h2)) h3
  have hW' := hW
  obtain ⟨p, q, hA0, hV, hbf, hfz, hnd⟩ := hW
  have hA : DataW.TrodAll enc Try.prog W 0 (fun _ => true) true Try.f9.params.toList args.toList ds p := hA0
  rw [Try.params9] at hA hval hz
  obtain ⟨v0, vs0, d0, ds0, p0, q0, hargs, rfl, hp0, h0, r0⟩ := trodAll_cons hA
  obtain ⟨v1, vs1, d1, ds1, p1, q1, rfl, rfl, hp1, h1, r1⟩ := trodAll_cons r0
  obtain ⟨v2, vs2, d2, ds2, p2, q2, rfl, rfl, hp2, h2, r2⟩ := trodAll_cons r1
  obtain ⟨rfl, rfl, hp⟩ := trodAll_nil r2
  obtain rfl : args = #[v0, v1, v2] := by cases args; simp_all
  obtain ⟨rfl, rfl⟩ := trodVars_none hV
  obtain ⟨a0, A0, o0⟩ := (openA_ag op_Consumer_34 (by kernel_rfl)) H enc W base _ _ v0 d0 p0 (hval 0 34 v0 rfl rfl) h0 (hz 0 34 d0 rfl rfl (by kernel_rfl)) (cx0 W) rfl (cx0_L W)
  obtain ⟨a1, A1, o1⟩ := (openA_one op_int_3 ⟨.int .i64, by kernel_rfl, by rfl⟩) H enc W base _ _ v1 d1 p1 (hval 1 3 v1 rfl rfl) h1 (hz 1 3 d1 rfl rfl (by kernel_rfl)) (cx0 W) rfl (cx0_L W)
  obtain ⟨a2, A2, o2⟩ := (openA_one op_int_3 ⟨.int .i64, by kernel_rfl, by rfl⟩) H enc W base _ _ v2 d2 p2 (hval 2 3 v2 rfl rfl) h2 (hz 2 3 d2 rfl rfl (by kernel_rfl)) (cx0 W) rfl (cx0_L W)
  refine (law_tree ok_keep_ConsumerFlags (.cons A0 (.cons A1 (.cons A2 .nil))) (c := ⟨Bool, sh_keep_ConsumerFlags a0 a1 a2, default, fun r => (tuple ((qr_keep_ConsumerFlags.e r).take 1)).re (backF [] 0 0), fun r => backBs [] 0 0 0 (unflatB [] ((qr_keep_ConsumerFlags.e r).drop 1))⟩) (by kernel_rfl) (r := true) (ptl a0 a1 a2 o0 o1 o2) (by rfl) (by rfl)).mono fun e W' ⟨he, hb⟩ => ⟨_, he, ?_⟩
  exact law_post Facts.laid hW' hA0 (hbf.trans (List.append_nil _)) rfl rfl (by kernel_rfl) (by kernel_rfl) rfl rfl (by rw [Try.params9]; intro t ht; simp only [List.mem_cons, List.mem_nil_iff, or_false] at ht; (try rcases ht with rfl | rfl | rfl) <;> exact ⟨by kernel_rfl, of_decide_eq_true (by kernel_rfl)⟩) hb

theorem joined9 : joinedFacts Try.prog 9 Try.f9 (Rows.OpenSpec.upto Rows.consumerFlagsSpec).bare Rows.consumerFlagsUptoRow = true := by
  unfold joinedFacts
  rw [Facts.laid, Facts.maps, Facts.stops, Facts.stopKnobs, Facts.heard, Facts.plainKeys, Facts.mayEnter, Facts.lifts, Facts.make]
  simp only [Bool.and_eq_true]
  repeat' apply And.intro
  all_goals first | (with_reducible exact True.intro) | (as_aux_lemma => kernel_rfl)

theorem over9 : Rows.consumerFlagsUptoRow.holds Try.pinned (Rows.OpenSpec.upto Rows.consumerFlagsSpec) :=
  OpenClaim.holds_of_cond 9 Try.f9 rfl rfl rfl rfl rfl rfl rfl ⟨rfl, rfl, rfl, rfl, rfl⟩ rfl rfl rfl rfl rfl (by as_aux_lemma => kernel_rfl) Try.func9 joined9
    (of_decide_eq_true (by kernel_rfl)) (by unfold Func.isWrapper; first | (rw [if_pos (by decide +kernel)]; kernel_rfl) | (rw [if_neg (by decide +kernel)]; exact ⟨rfl, rfl⟩))
    (fun os started H enc _ F => lifted9 os started H enc F)

theorem provedConsumerFlags : Rows.ConsumerFlagsUptoSaid :=
  over9

end Go.Proofs.Ythhdljniheaeoaa.Ab
