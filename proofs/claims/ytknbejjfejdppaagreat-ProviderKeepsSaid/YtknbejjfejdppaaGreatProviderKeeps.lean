/-
  ProviderKeeps: the law answers true for every input.
-/
import Derived.Test.YtknbejjfejdppaaGreatAbOpen
import Derived.Test.YtknbejjfejdppaaGreatFacts
import Derived.Test.YtknbejjfejdppaaGreatPlAllB
namespace Go.Proofs.YtknbejjfejdppaaGreat.Ab
open Go Go.RowKit Go.WideShapes Go.ChangeShapes Go.ChangeAt
set_option linter.unusedSimpArgs false
set_option linter.unusedVariables false
set_option maxRecDepth 100000

def ok_A4_int (x : (A4 Int)) : Prop := i64 x.x0 ∧ i64 x.x1 ∧ i64 x.x2 ∧ i64 x.x3
def ok_Bank (x : Bank) : Prop := ok_A4_int x.Free ∧ i64 x.Bonded ∧ i64 x.Waiting ∧ i64 x.Burnt
def ok_Validator (x : Validator) : Prop := i64 x.Tokens ∧ i64 x.Shares ∧ i64 x.Lost ∧ (fun _ => True) x.Jailed ∧ (fun _ => True) x.Dead
def ok_A6_Validator (x : (A6 Validator)) : Prop := ok_Validator x.x0 ∧ ok_Validator x.x1 ∧ ok_Validator x.x2 ∧ ok_Validator x.x3 ∧ ok_Validator x.x4 ∧ ok_Validator x.x5
def ok_Validators (x : Validators) : Prop := ok_A6_Validator ⟨⟨x.Tokens.x0, x.Shares.x0, x.Lost.x0, x.Jailed.x0, x.Dead.x0⟩, ⟨x.Tokens.x1, x.Shares.x1, x.Lost.x1, x.Jailed.x1, x.Dead.x1⟩, ⟨x.Tokens.x2, x.Shares.x2, x.Lost.x2, x.Jailed.x2, x.Dead.x2⟩, ⟨x.Tokens.x3, x.Shares.x3, x.Lost.x3, x.Jailed.x3, x.Dead.x3⟩, ⟨x.Tokens.x4, x.Shares.x4, x.Lost.x4, x.Jailed.x4, x.Dead.x4⟩, ⟨x.Tokens.x5, x.Shares.x5, x.Lost.x5, x.Jailed.x5, x.Dead.x5⟩⟩
def ok_A6_int (x : (A6 Int)) : Prop := i64 x.x0 ∧ i64 x.x1 ∧ i64 x.x2 ∧ i64 x.x3 ∧ i64 x.x4 ∧ i64 x.x5
def ok_A4_A6_int (x : (A4 (A6 Int))) : Prop := ok_A6_int x.x0 ∧ ok_A6_int x.x1 ∧ ok_A6_int x.x2 ∧ ok_A6_int x.x3
def ok_Wait (x : Wait) : Prop := i64 x.Number ∧ i64 x.D ∧ i64 x.V ∧ i64 x.Amount ∧ i64 x.Height ∧ i64 x.Due ∧ i64 x.h0 ∧ i64 x.h1
def ok_Stake (x : Stake) : Prop := ok_Bank x.Bank ∧ ok_Validators x.Validators ∧ ok_A4_A6_int x.Shares ∧ (fun l : (List Wait) => l.length ≤ 9223372036854775807 ∧ l.length * 64 ≤ 140737488351232 ∧ ∀ a, a ∈ l → ok_Wait a) x.Waits ∧ i64 x.Next
def ok_Power (x : Power) : Prop := i64 x.V ∧ i64 x.N
def ok_Line (x : Line) : Prop := (fun l : (List ByteArray) => l.length ≤ 9223372036854775807 ∧ l.length * 16 ≤ 140737488351232 ∧ ∀ a, a ∈ l → (fun s : ByteArray => s.size ≤ 140737488351232) a) x.Said ∧ (fun l : (List Int) => l.length ≤ 9223372036854775807 ∧ l.length * 8 ≤ 140737488351232 ∧ ∀ a, a ∈ l → i64 a) x.Due ∧ i64 x.Got ∧ (fun _ => True) x.Closed
def ok_Head (x : Head) : Prop := i64 x.Height ∧ i64 x.Time ∧ i64 x.Said ∧ i64 x.Got
def ok_Link (x : Link) : Prop := (fun _ => True) x.On ∧ (fun _ => True) x.Gone ∧ i64 x.Base ∧ (fun l : (List Power) => l.length ≤ 9223372036854775807 ∧ l.length * 16 ≤ 140737488351232 ∧ ∀ a, a ∈ l → ok_Power a) x.Told ∧ (fun _ => True) x.Fresh ∧ (fun l : (List Int) => l.length ≤ 9223372036854775807 ∧ l.length * 8 ≤ 140737488351232 ∧ ∀ a, a ∈ l → i64 a) x.Done ∧ ok_Line x.Out ∧ ok_Head x.Seen
def ok_A2_Link (x : (A2 Link)) : Prop := ok_Link x.x0 ∧ ok_Link x.x1
def ok_Links (x : Links) : Prop := ok_A2_Link ⟨⟨x.On.x0, x.Gone.x0, x.Base.x0, x.Told.x0, x.Fresh.x0, x.Done.x0, ⟨x.Said.x0, x.Due.x0, x.Got.x0, x.Closed.x0⟩, ⟨x.SHeight.x0, x.STime.x0, x.SSaid.x0, x.SGot.x0⟩⟩, ⟨x.On.x1, x.Gone.x1, x.Base.x1, x.Told.x1, x.Fresh.x1, x.Done.x1, ⟨x.Said.x1, x.Due.x1, x.Got.x1, x.Closed.x1⟩, ⟨x.SHeight.x1, x.STime.x1, x.SSaid.x1, x.SGot.x1⟩⟩⟩
def ok_Meter (x : Meter) : Prop := i64 x.Left ∧ i64 x.Next
def ok_Packet (x : Packet) : Prop := i64 x.Kind ∧ i64 x.Id ∧ i64 x.V ∧ i64 x.N ∧ (fun l : (List Power) => l.length ≤ 9223372036854775807 ∧ l.length * 16 ≤ 140737488351232 ∧ ∀ a, a ∈ l → ok_Power a) x.Set ∧ (fun l : (List Int) => l.length ≤ 9223372036854775807 ∧ l.length * 8 ≤ 140737488351232 ∧ ∀ a, a ∈ l → i64 a) x.Done
def ok_Asked (x : Asked) : Prop := i64 x.C ∧ ok_Packet x.P
def ok_Provider (x : Provider) : Prop := i64 x.Height ∧ i64 x.Time ∧ ok_Stake x.Stake ∧ (fun l : (List Power) => l.length ≤ 9223372036854775807 ∧ l.length * 16 ≤ 140737488351232 ∧ ∀ a, a ∈ l → ok_Power a) x.Set ∧ ok_Links x.Links ∧ ok_Meter x.Meter ∧ (fun l : (List Asked) => l.length ≤ 9223372036854775807 ∧ l.length * 88 ≤ 140737488351232 ∧ ∀ a, a ∈ l → ok_Asked a) x.Queue
theorem op_int_3 : OpenT 140737488351232 Tryz.prog 3 (fun a => [intP.e a]) i64 := open_i (by kernel_rfl)
theorem op_A4_int_22 : OpenT 140737488351232 Tryz.prog 22 (a4L (LP.one intP)).e ok_A4_int := open_map (open_array (E := 3) (n := 4) [(0, 3), (1, 3), (2, 3), (3, 3)] default (by kernel_rfl) (by kernel_rfl) (by kernel_rfl) (openTs_cons (c := 1) (by kernel_rfl) op_int_3 (openTs_cons (c := 1) (by kernel_rfl) op_int_3 (openTs_cons (c := 1) (by kernel_rfl) op_int_3 (openTs_cons (c := 1) (by kernel_rfl) op_int_3 openTs_nil))))) (fun x : Int × Int × Int × Int × Unit => (⟨x.1, x.2.1, x.2.2.1, x.2.2.2.1⟩ : (A4 Int))) (fun _ => rfl) (fun _ h => ⟨h.1, h.2.1, h.2.2.1, h.2.2.2.1⟩)
theorem op_Bank_24 : OpenT 140737488351232 Tryz.prog 24 bankL.e ok_Bank := open_map (open_fields [(0, 22), (4, 3), (5, 3), (6, 3)] (by kernel_rfl) (by kernel_rfl) (openTs_cons (c := 4) (by kernel_rfl) op_A4_int_22 (openTs_cons (c := 1) (by kernel_rfl) op_int_3 (openTs_cons (c := 1) (by kernel_rfl) op_int_3 (openTs_cons (c := 1) (by kernel_rfl) op_int_3 openTs_nil))))) (fun x : (A4 Int) × Int × Int × Int × Unit => (⟨x.1, x.2.1, x.2.2.1, x.2.2.2.1⟩ : Bank)) (fun _ => rfl) (fun _ h => ⟨h.1, h.2.1, h.2.2.1, h.2.2.2.1⟩)
theorem op_bool_4 : OpenT 140737488351232 Tryz.prog 4 (fun a => [boolP.e a]) (fun _ => True) := open_b (by kernel_rfl)
theorem op_Validator_26 : OpenT 140737488351232 Tryz.prog 26 validatorL.e ok_Validator := open_map (open_fields [(0, 3), (1, 3), (2, 3), (3, 4), (4, 4)] (by kernel_rfl) (by kernel_rfl) (openTs_cons (c := 1) (by kernel_rfl) op_int_3 (openTs_cons (c := 1) (by kernel_rfl) op_int_3 (openTs_cons (c := 1) (by kernel_rfl) op_int_3 (openTs_cons (c := 1) (by kernel_rfl) op_bool_4 (openTs_cons (c := 1) (by kernel_rfl) op_bool_4 openTs_nil)))))) (fun x : Int × Int × Int × Bool × Bool × Unit => (⟨x.1, x.2.1, x.2.2.1, x.2.2.2.1, x.2.2.2.2.1⟩ : Validator)) (fun _ => rfl) (fun _ h => ⟨h.1, h.2.1, h.2.2.1, h.2.2.2.1, h.2.2.2.2.1⟩)
theorem op_A6_Validator_27 : OpenT 140737488351232 Tryz.prog 27 (a6L validatorL).e ok_A6_Validator := open_map (open_array (E := 26) (n := 6) [(0, 26), (5, 26), (10, 26), (15, 26), (20, 26), (25, 26)] default (by kernel_rfl) (by kernel_rfl) (by kernel_rfl) (openTs_cons (c := 5) (by kernel_rfl) op_Validator_26 (openTs_cons (c := 5) (by kernel_rfl) op_Validator_26 (openTs_cons (c := 5) (by kernel_rfl) op_Validator_26 (openTs_cons (c := 5) (by kernel_rfl) op_Validator_26 (openTs_cons (c := 5) (by kernel_rfl) op_Validator_26 (openTs_cons (c := 5) (by kernel_rfl) op_Validator_26 openTs_nil))))))) (fun x : Validator × Validator × Validator × Validator × Validator × Validator × Unit => (⟨x.1, x.2.1, x.2.2.1, x.2.2.2.1, x.2.2.2.2.1, x.2.2.2.2.2.1⟩ : (A6 Validator))) (fun _ => rfl) (fun _ h => ⟨h.1, h.2.1, h.2.2.1, h.2.2.2.1, h.2.2.2.2.1, h.2.2.2.2.2.1⟩)
theorem op_Validators_27 : OpenT 140737488351232 Tryz.prog 27 validatorsL.e ok_Validators := open_map op_A6_Validator_27 (fun a : (A6 Validator) => (⟨⟨a.x0.Tokens, a.x1.Tokens, a.x2.Tokens, a.x3.Tokens, a.x4.Tokens, a.x5.Tokens⟩, ⟨a.x0.Shares, a.x1.Shares, a.x2.Shares, a.x3.Shares, a.x4.Shares, a.x5.Shares⟩, ⟨a.x0.Lost, a.x1.Lost, a.x2.Lost, a.x3.Lost, a.x4.Lost, a.x5.Lost⟩, ⟨a.x0.Jailed, a.x1.Jailed, a.x2.Jailed, a.x3.Jailed, a.x4.Jailed, a.x5.Jailed⟩, ⟨a.x0.Dead, a.x1.Dead, a.x2.Dead, a.x3.Dead, a.x4.Dead, a.x5.Dead⟩⟩ : Validators)) (fun _ => rfl) (fun _ h => h)
theorem op_A6_int_28 : OpenT 140737488351232 Tryz.prog 28 (a6L (LP.one intP)).e ok_A6_int := open_map (open_array (E := 3) (n := 6) [(0, 3), (1, 3), (2, 3), (3, 3), (4, 3), (5, 3)] default (by kernel_rfl) (by kernel_rfl) (by kernel_rfl) (openTs_cons (c := 1) (by kernel_rfl) op_int_3 (openTs_cons (c := 1) (by kernel_rfl) op_int_3 (openTs_cons (c := 1) (by kernel_rfl) op_int_3 (openTs_cons (c := 1) (by kernel_rfl) op_int_3 (openTs_cons (c := 1) (by kernel_rfl) op_int_3 (openTs_cons (c := 1) (by kernel_rfl) op_int_3 openTs_nil))))))) (fun x : Int × Int × Int × Int × Int × Int × Unit => (⟨x.1, x.2.1, x.2.2.1, x.2.2.2.1, x.2.2.2.2.1, x.2.2.2.2.2.1⟩ : (A6 Int))) (fun _ => rfl) (fun _ h => ⟨h.1, h.2.1, h.2.2.1, h.2.2.2.1, h.2.2.2.2.1, h.2.2.2.2.2.1⟩)
theorem op_A4_A6_int_29 : OpenT 140737488351232 Tryz.prog 29 (a4L (a6L (LP.one intP))).e ok_A4_A6_int := open_map (open_array (E := 28) (n := 4) [(0, 28), (6, 28), (12, 28), (18, 28)] default (by kernel_rfl) (by kernel_rfl) (by kernel_rfl) (openTs_cons (c := 6) (by kernel_rfl) op_A6_int_28 (openTs_cons (c := 6) (by kernel_rfl) op_A6_int_28 (openTs_cons (c := 6) (by kernel_rfl) op_A6_int_28 (openTs_cons (c := 6) (by kernel_rfl) op_A6_int_28 openTs_nil))))) (fun x : (A6 Int) × (A6 Int) × (A6 Int) × (A6 Int) × Unit => (⟨x.1, x.2.1, x.2.2.1, x.2.2.2.1⟩ : (A4 (A6 Int)))) (fun _ => rfl) (fun _ h => ⟨h.1, h.2.1, h.2.2.1, h.2.2.2.1⟩)
def ok_A2_int (x : (A2 Int)) : Prop := i64 x.x0 ∧ i64 x.x1
theorem op_A2_int_79 : OpenT 140737488351232 Tryz.prog 79 (a2L (LP.one intP)).e ok_A2_int := open_map (open_array (E := 3) (n := 2) [(0, 3), (1, 3)] default (by kernel_rfl) (by kernel_rfl) (by kernel_rfl) (openTs_cons (c := 1) (by kernel_rfl) op_int_3 (openTs_cons (c := 1) (by kernel_rfl) op_int_3 openTs_nil))) (fun x : Int × Int × Unit => (⟨x.1, x.2.1⟩ : (A2 Int))) (fun _ => rfl) (fun _ h => ⟨h.1, h.2.1⟩)
theorem op_Wait_81 : OpenT 140737488351232 Tryz.prog 81 waitL.e ok_Wait := open_map (open_fields [(0, 3), (1, 3), (2, 3), (3, 3), (4, 3), (5, 3), (6, 79)] (by kernel_rfl) (by kernel_rfl) (openTs_cons (c := 1) (by kernel_rfl) op_int_3 (openTs_cons (c := 1) (by kernel_rfl) op_int_3 (openTs_cons (c := 1) (by kernel_rfl) op_int_3 (openTs_cons (c := 1) (by kernel_rfl) op_int_3 (openTs_cons (c := 1) (by kernel_rfl) op_int_3 (openTs_cons (c := 1) (by kernel_rfl) op_int_3 (openTs_cons (c := 2) (by kernel_rfl) op_A2_int_79 openTs_nil)))))))) (fun x : Int × Int × Int × Int × Int × Int × (A2 Int) × Unit => (⟨x.1, x.2.1, x.2.2.1, x.2.2.2.1, x.2.2.2.2.1, x.2.2.2.2.2.1, x.2.2.2.2.2.2.1.x0, x.2.2.2.2.2.2.1.x1⟩ : Wait)) (fun _ => rfl) (fun _ h => ⟨h.1, h.2.1, h.2.2.1, h.2.2.2.1, h.2.2.2.2.1, h.2.2.2.2.2.1, h.2.2.2.2.2.2.1.1, h.2.2.2.2.2.2.1.2⟩)
theorem op_waits_30 : OpenT 140737488351232 Tryz.prog 30 (fun a => [waitsP.e a]) (fun l : (List Wait) => l.length ≤ 9223372036854775807 ∧ l.length * 64 ≤ 140737488351232 ∧ ∀ a, a ∈ l → ok_Wait a) := open_sl .waits default waitL.e (by kernel_rfl) (by kernel_rfl) op_Wait_81 (fun _ => rfl) (fun _ => by kernel_rfl) (fun _ _ => rfl)
theorem op_Stake_32 : OpenT 140737488351232 Tryz.prog 32 stakeL.e ok_Stake := open_map (open_fields [(0, 24), (7, 27), (37, 29), (61, 30), (62, 3)] (by kernel_rfl) (by kernel_rfl) (openTs_cons (c := 7) (by kernel_rfl) op_Bank_24 (openTs_cons (c := 30) (by kernel_rfl) op_Validators_27 (openTs_cons (c := 24) (by kernel_rfl) op_A4_A6_int_29 (openTs_cons (c := 1) (by kernel_rfl) op_waits_30 (openTs_cons (c := 1) (by kernel_rfl) op_int_3 openTs_nil)))))) (fun x : Bank × Validators × (A4 (A6 Int)) × (List Wait) × Int × Unit => (⟨x.1, x.2.1, x.2.2.1, x.2.2.2.1, x.2.2.2.2.1⟩ : Stake)) (fun _ => rfl) (fun _ h => ⟨h.1, h.2.1, h.2.2.1, h.2.2.2.1, h.2.2.2.2.1⟩)
theorem op_Power_116 : OpenT 140737488351232 Tryz.prog 116 powerL.e ok_Power := open_map (open_fields [(0, 3), (1, 3)] (by kernel_rfl) (by kernel_rfl) (openTs_cons (c := 1) (by kernel_rfl) op_int_3 (openTs_cons (c := 1) (by kernel_rfl) op_int_3 openTs_nil))) (fun x : Int × Int × Unit => (⟨x.1, x.2.1⟩ : Power)) (fun _ => rfl) (fun _ h => ⟨h.1, h.2.1⟩)
theorem op_powers_33 : OpenT 140737488351232 Tryz.prog 33 (fun a => [powersP.e a]) (fun l : (List Power) => l.length ≤ 9223372036854775807 ∧ l.length * 16 ≤ 140737488351232 ∧ ∀ a, a ∈ l → ok_Power a) := open_sl .powers default powerL.e (by kernel_rfl) (by kernel_rfl) op_Power_116 (fun _ => rfl) (fun _ => by kernel_rfl) (fun _ _ => rfl)
theorem op_ints_34 : OpenT 140737488351232 Tryz.prog 34 (fun a => [intsP.e a]) (fun l : (List Int) => l.length ≤ 9223372036854775807 ∧ l.length * 8 ≤ 140737488351232 ∧ ∀ a, a ∈ l → i64 a) := open_sl .ints 0 (fun a => [intP.e a]) (by kernel_rfl) (by kernel_rfl) op_int_3 (fun _ => rfl) (fun _ => by kernel_rfl) (fun _ _ => rfl)
theorem op_str_9 : OpenT 140737488351232 Tryz.prog 9 (fun a => [strP.e a]) (fun s : ByteArray => s.size ≤ 140737488351232) := open_s (by kernel_rfl)
theorem op_strs_35 : OpenT 140737488351232 Tryz.prog 35 (fun a => [strsP.e a]) (fun l : (List ByteArray) => l.length ≤ 9223372036854775807 ∧ l.length * 16 ≤ 140737488351232 ∧ ∀ a, a ∈ l → (fun s : ByteArray => s.size ≤ 140737488351232) a) := open_sl .strs .empty (fun a => [strP.e a]) (by kernel_rfl) (by kernel_rfl) op_str_9 (fun _ => rfl) (fun _ => by kernel_rfl) (fun _ _ => rfl)
theorem op_Line_37 : OpenT 140737488351232 Tryz.prog 37 lineL.e ok_Line := open_map (open_fields [(0, 35), (1, 34), (2, 3), (3, 4)] (by kernel_rfl) (by kernel_rfl) (openTs_cons (c := 1) (by kernel_rfl) op_strs_35 (openTs_cons (c := 1) (by kernel_rfl) op_ints_34 (openTs_cons (c := 1) (by kernel_rfl) op_int_3 (openTs_cons (c := 1) (by kernel_rfl) op_bool_4 openTs_nil))))) (fun x : (List ByteArray) × (List Int) × Int × Bool × Unit => (⟨x.1, x.2.1, x.2.2.1, x.2.2.2.1⟩ : Line)) (fun _ => rfl) (fun _ h => ⟨h.1, h.2.1, h.2.2.1, h.2.2.2.1⟩)
theorem op_Head_39 : OpenT 140737488351232 Tryz.prog 39 headL.e ok_Head := open_map (open_fields [(0, 3), (1, 3), (2, 3), (3, 3)] (by kernel_rfl) (by kernel_rfl) (openTs_cons (c := 1) (by kernel_rfl) op_int_3 (openTs_cons (c := 1) (by kernel_rfl) op_int_3 (openTs_cons (c := 1) (by kernel_rfl) op_int_3 (openTs_cons (c := 1) (by kernel_rfl) op_int_3 openTs_nil))))) (fun x : Int × Int × Int × Int × Unit => (⟨x.1, x.2.1, x.2.2.1, x.2.2.2.1⟩ : Head)) (fun _ => rfl) (fun _ h => ⟨h.1, h.2.1, h.2.2.1, h.2.2.2.1⟩)
theorem op_Link_41 : OpenT 140737488351232 Tryz.prog 41 linkL.e ok_Link := open_map (open_fields [(0, 4), (1, 4), (2, 3), (3, 33), (4, 4), (5, 34), (6, 37), (10, 39)] (by kernel_rfl) (by kernel_rfl) (openTs_cons (c := 1) (by kernel_rfl) op_bool_4 (openTs_cons (c := 1) (by kernel_rfl) op_bool_4 (openTs_cons (c := 1) (by kernel_rfl) op_int_3 (openTs_cons (c := 1) (by kernel_rfl) op_powers_33 (openTs_cons (c := 1) (by kernel_rfl) op_bool_4 (openTs_cons (c := 1) (by kernel_rfl) op_ints_34 (openTs_cons (c := 4) (by kernel_rfl) op_Line_37 (openTs_cons (c := 4) (by kernel_rfl) op_Head_39 openTs_nil))))))))) (fun x : Bool × Bool × Int × (List Power) × Bool × (List Int) × Line × Head × Unit => (⟨x.1, x.2.1, x.2.2.1, x.2.2.2.1, x.2.2.2.2.1, x.2.2.2.2.2.1, x.2.2.2.2.2.2.1, x.2.2.2.2.2.2.2.1⟩ : Link)) (fun _ => rfl) (fun _ h => ⟨h.1, h.2.1, h.2.2.1, h.2.2.2.1, h.2.2.2.2.1, h.2.2.2.2.2.1, h.2.2.2.2.2.2.1, h.2.2.2.2.2.2.2.1⟩)
theorem op_A2_Link_42 : OpenT 140737488351232 Tryz.prog 42 (a2L linkL).e ok_A2_Link := open_map (open_array (E := 41) (n := 2) [(0, 41), (14, 41)] default (by kernel_rfl) (by kernel_rfl) (by kernel_rfl) (openTs_cons (c := 14) (by kernel_rfl) op_Link_41 (openTs_cons (c := 14) (by kernel_rfl) op_Link_41 openTs_nil))) (fun x : Link × Link × Unit => (⟨x.1, x.2.1⟩ : (A2 Link))) (fun _ => rfl) (fun _ h => ⟨h.1, h.2.1⟩)
theorem op_Links_42 : OpenT 140737488351232 Tryz.prog 42 linksL.e ok_Links := open_map op_A2_Link_42 (fun a : (A2 Link) => (⟨⟨a.x0.On, a.x1.On⟩, ⟨a.x0.Gone, a.x1.Gone⟩, ⟨a.x0.Base, a.x1.Base⟩, ⟨a.x0.Told, a.x1.Told⟩, ⟨a.x0.Fresh, a.x1.Fresh⟩, ⟨a.x0.Done, a.x1.Done⟩, ⟨a.x0.Out.Said, a.x1.Out.Said⟩, ⟨a.x0.Out.Due, a.x1.Out.Due⟩, ⟨a.x0.Out.Got, a.x1.Out.Got⟩, ⟨a.x0.Out.Closed, a.x1.Out.Closed⟩, ⟨a.x0.Seen.Height, a.x1.Seen.Height⟩, ⟨a.x0.Seen.Time, a.x1.Seen.Time⟩, ⟨a.x0.Seen.Said, a.x1.Seen.Said⟩, ⟨a.x0.Seen.Got, a.x1.Seen.Got⟩⟩ : Links)) (fun _ => rfl) (fun _ h => h)
theorem op_Meter_44 : OpenT 140737488351232 Tryz.prog 44 meterL.e ok_Meter := open_map (open_fields [(0, 3), (1, 3)] (by kernel_rfl) (by kernel_rfl) (openTs_cons (c := 1) (by kernel_rfl) op_int_3 (openTs_cons (c := 1) (by kernel_rfl) op_int_3 openTs_nil))) (fun x : Int × Int × Unit => (⟨x.1, x.2.1⟩ : Meter)) (fun _ => rfl) (fun _ h => ⟨h.1, h.2.1⟩)
theorem op_Packet_66 : OpenT 140737488351232 Tryz.prog 66 packetL.e ok_Packet := open_map (open_fields [(0, 3), (1, 3), (2, 3), (3, 3), (4, 33), (5, 34)] (by kernel_rfl) (by kernel_rfl) (openTs_cons (c := 1) (by kernel_rfl) op_int_3 (openTs_cons (c := 1) (by kernel_rfl) op_int_3 (openTs_cons (c := 1) (by kernel_rfl) op_int_3 (openTs_cons (c := 1) (by kernel_rfl) op_int_3 (openTs_cons (c := 1) (by kernel_rfl) op_powers_33 (openTs_cons (c := 1) (by kernel_rfl) op_ints_34 openTs_nil))))))) (fun x : Int × Int × Int × Int × (List Power) × (List Int) × Unit => (⟨x.1, x.2.1, x.2.2.1, x.2.2.2.1, x.2.2.2.2.1, x.2.2.2.2.2.1⟩ : Packet)) (fun _ => rfl) (fun _ h => ⟨h.1, h.2.1, h.2.2.1, h.2.2.2.1, h.2.2.2.2.1, h.2.2.2.2.2.1⟩)
theorem op_Asked_83 : OpenT 140737488351232 Tryz.prog 83 askedL.e ok_Asked := open_map (open_fields [(0, 3), (1, 66)] (by kernel_rfl) (by kernel_rfl) (openTs_cons (c := 1) (by kernel_rfl) op_int_3 (openTs_cons (c := 6) (by kernel_rfl) op_Packet_66 openTs_nil))) (fun x : Int × Packet × Unit => (⟨x.1, x.2.1⟩ : Asked)) (fun _ => rfl) (fun _ h => ⟨h.1, h.2.1⟩)
theorem op_asked_45 : OpenT 140737488351232 Tryz.prog 45 (fun a => [askedP.e a]) (fun l : (List Asked) => l.length ≤ 9223372036854775807 ∧ l.length * 88 ≤ 140737488351232 ∧ ∀ a, a ∈ l → ok_Asked a) := open_sl .asked default askedL.e (by kernel_rfl) (by kernel_rfl) op_Asked_83 (fun _ => rfl) (fun _ => by kernel_rfl) (fun _ _ => rfl)
theorem op_Provider_47 : OpenT 140737488351232 Tryz.prog 47 providerL.e ok_Provider := open_map (open_fields [(0, 3), (1, 3), (2, 32), (65, 33), (66, 42), (94, 44), (96, 45)] (by kernel_rfl) (by kernel_rfl) (openTs_cons (c := 1) (by kernel_rfl) op_int_3 (openTs_cons (c := 1) (by kernel_rfl) op_int_3 (openTs_cons (c := 63) (by kernel_rfl) op_Stake_32 (openTs_cons (c := 1) (by kernel_rfl) op_powers_33 (openTs_cons (c := 28) (by kernel_rfl) op_Links_42 (openTs_cons (c := 2) (by kernel_rfl) op_Meter_44 (openTs_cons (c := 1) (by kernel_rfl) op_asked_45 openTs_nil)))))))) (fun x : Int × Int × Stake × (List Power) × Links × Meter × (List Asked) × Unit => (⟨x.1, x.2.1, x.2.2.1, x.2.2.2.1, x.2.2.2.2.1, x.2.2.2.2.2.1, x.2.2.2.2.2.2.1⟩ : Provider)) (fun _ => rfl) (fun _ h => ⟨h.1, h.2.1, h.2.2.1, h.2.2.2.1, h.2.2.2.2.1, h.2.2.2.2.2.1, h.2.2.2.2.2.2.1⟩)
theorem fit_link {x : Link} (o : ok_Link x) : x.Told.length * 16 ≤ 140737488351232 ∧ x.Done.length * 8 ≤ 140737488351232 ∧ x.Out.Said.length * 16 ≤ 140737488351232 ∧ x.Out.Due.length * 8 ≤ 140737488351232 := by
  obtain ⟨-, -, -, ht, -, hd, ho, -⟩ := o
  obtain ⟨hs, hu, -, -⟩ := ho
  exact ⟨ht.2.1, hd.2.1, hs.2.1, hu.2.1⟩
theorem fit_asked {x : Asked} (o : ok_Asked x) : x.P.Set.length * 16 ≤ 140737488351232 ∧ x.P.Done.length * 8 ≤ 140737488351232 := by
  obtain ⟨-, ho⟩ := o
  obtain ⟨-, -, -, -, hs, hd⟩ := ho
  exact ⟨hs.2.1, hd.2.1⟩
theorem fit_stake {x : Stake} (o : ok_Stake x) : x.Waits.length * 64 ≤ 140737488351232 := by
  obtain ⟨-, -, -, hW, -⟩ := o
  exact hW.2.1
theorem fit_of {p : Provider} (o : ok_Provider p) : FitPr 140737488351232 p := by
  obtain ⟨-, -, hS, hset, hL, -, hQ⟩ := o
  obtain ⟨l0, l1⟩ := hL
  have a0 := fit_link l0
  have a1 := fit_link l1
  simp only [] at a0 a1
  obtain ⟨t0, d0, s0, u0⟩ := a0
  obtain ⟨t1, d1, s1, u1⟩ := a1
  refine ⟨fit_stake hS, hset.2.1, fun c => ?_, fun c => ?_, fun c => ?_, fun c => ?_, hQ.2.1, fun a ha => fit_asked (hQ.2.2 a ha)⟩
  · unfold A2.get; by_cases h : c = 0
    · rw [if_pos h]; exact t0
    · rw [if_neg h]; exact t1
  · unfold A2.get; by_cases h : c = 0
    · rw [if_pos h]; exact d0
    · rw [if_neg h]; exact d1
  · unfold A2.get; by_cases h : c = 0
    · rw [if_pos h]; exact s0
    · rw [if_neg h]; exact s1
  · unfold A2.get; by_cases h : c = 0
    · rw [if_pos h]; exact u0
    · rw [if_neg h]; exact u1

theorem ptl (a0 : Provider) (a1 : Int) (o0 : ok_Provider a0) (_ : i64 a1) : sh_keep_ProviderKeeps a0 a1 = some true := pl_ProviderKeeps (fit_of o0)
set_option maxRecDepth 100000 in
theorem lifted6 (os : Os) (started : os.Started) (H : Type) (enc : TypeId × Value → H) :
    ReturnsInHanded {} Tryz.checked os 6 .any (Rows.providerKeepsSpec.pre6 enc Tryz.prog Tryz.f6 Rows.providerKeepsRow.domain false) (Rows.providerKeepsSpec.post enc Tryz.prog Tryz.f6 false true false false) := by
  refine returnsInHanded_of_change_sized (C := Tryz.checked) Facts.own started (by kernel_rfl) Tryz.func6
    (ChangeSpec.witness6 (enc := enc) (C := Tryz.checked) false ⟨#[], #[.agg #[.int .i64 0, .int .i64 0, .int .i64 0, .int .i64 0, .int .i64 0, .int .i64 0, .int .i64 0, .int .i64 0, .int .i64 0, .int .i64 0, .int .i64 0, .int .i64 0, .bool false, .bool false, .int .i64 0, .int .i64 0, .int .i64 0, .bool false, .bool false, .int .i64 0, .int .i64 0, .int .i64 0, .bool false, .bool false, .int .i64 0, .int .i64 0, .int .i64 0, .bool false, .bool false, .int .i64 0, .int .i64 0, .int .i64 0, .bool false, .bool false, .int .i64 0, .int .i64 0, .int .i64 0, .bool false, .bool false, .int .i64 0, .int .i64 0, .int .i64 0, .int .i64 0, .int .i64 0, .int .i64 0, .int .i64 0, .int .i64 0, .int .i64 0, .int .i64 0, .int .i64 0, .int .i64 0, .int .i64 0, .int .i64 0, .int .i64 0, .int .i64 0, .int .i64 0, .int .i64 0, .int .i64 0, .int .i64 0, .int .i64 0, .int .i64 0, .int .i64 0, .int .i64 0, .slice none 0 0, .int .i64 0, .slice none 0 0, .bool false, .bool false, .int .i64 0, .slice none 0 0, .bool false, .slice none 0 0, .slice none 0 0, .slice none 0 0, .int .i64 0, .bool false, .int .i64 0, .int .i64 0, .int .i64 0, .int .i64 0, .bool false, .bool false, .int .i64 0, .slice none 0 0, .bool false, .slice none 0 0, .slice none 0 0, .slice none 0 0, .int .i64 0, .bool false, .int .i64 0, .int .i64 0, .int .i64 0, .int .i64 0, .int .i64 0, .int .i64 0, .slice none 0 0], .int .i64 0], []⟩ 8 (by kernel_rfl) (by kernel_rfl) (by kernel_rfl) (by kernel_rfl)) ?_
  intro W base args ds gs before hval0 hW hcnd hz0 _
  have hval : ∀ (j : Nat) t v, Tryz.f6.params[j]? = some t → args[j]? = some v → Value.okWide Tryz.prog W .any base t v := hval0
  have hz : ∀ (j : Nat) t d, Tryz.f6.params.toList[j]? = some t → ds[j]? = some d → Wt 140737488351232 Tryz.prog t d := fun j t d h1 h2 n hn => of_decide_eq_true (List.all_eq_true.1 hz0 n (DataW.weights_mem_each (get_left h1) (get_left h2) n hn))
  have hW' := hW
  obtain ⟨p, q, hA0, hV, hbf, hfz, hnd⟩ := hW
  have hA : DataW.TrodAll enc Tryz.prog W 0 (fun _ => true) true Tryz.f6.params.toList args.toList ds p := hA0
  rw [Tryz.params6] at hA hval hz
  obtain ⟨v0, vs0, d0, ds0, p0, q0, hargs, rfl, hp0, h0, r0⟩ := trodAll_cons hA
  obtain ⟨v1, vs1, d1, ds1, p1, q1, rfl, rfl, hp1, h1, r1⟩ := trodAll_cons r0
  obtain ⟨rfl, rfl, hp⟩ := trodAll_nil r1
  obtain rfl : args = #[v0, v1] := by cases args; simp_all
  obtain ⟨rfl, rfl⟩ := trodVars_none hV
  obtain ⟨a0, A0, o0⟩ := (openA_ag op_Provider_47 (by kernel_rfl)) H enc W base _ _ v0 d0 p0 (hval 0 47 v0 rfl rfl) h0 (hz 0 47 d0 rfl rfl) (cx0 W) rfl (cx0_L W)
  obtain ⟨a1, A1, o1⟩ := (openA_one op_int_3 ⟨.int .i64, by kernel_rfl, by rfl⟩) H enc W base _ _ v1 d1 p1 (hval 1 3 v1 rfl rfl) h1 (hz 1 3 d1 rfl rfl) (cx0 W) rfl (cx0_L W)
  refine (law_tree ok_keep_ProviderKeeps (.cons A0 (.cons A1 .nil)) (c := ⟨Bool, sh_keep_ProviderKeeps a0 a1, default, fun r => (tuple ((qr_keep_ProviderKeeps.e r).take 1)).re (backF [] 0 0), fun r => backBs [] 0 0 0 (unflatB [] ((qr_keep_ProviderKeeps.e r).drop 1))⟩) (by kernel_rfl) (r := true) (ptl a0 a1 o0 o1) (by rfl) (by rfl)).mono fun e W' ⟨he, hb⟩ => ⟨_, he, ?_⟩
  exact law_post Facts.laid hW' hA0 (hbf.trans (List.append_nil _)) rfl rfl (by kernel_rfl) (by kernel_rfl) rfl rfl (by rw [Tryz.params6]; intro t ht; simp only [List.mem_cons, List.mem_nil_iff, or_false] at ht; (try rcases ht with rfl | rfl) <;> exact ⟨by kernel_rfl, of_decide_eq_true (by kernel_rfl)⟩) hb

set_option maxHeartbeats 1000000 in
theorem joined6 : joinedFacts Tryz.prog 6 Tryz.f6 Rows.providerKeepsSpec Rows.providerKeepsRow = true := by
  unfold joinedFacts
  rw [Facts.laid, Facts.maps, Facts.stops, Facts.stopKnobs, Facts.heard, Facts.plainKeys, Facts.mayEnter, Facts.lifts, Facts.make]
  simp only [Bool.and_eq_true]
  repeat' apply And.intro
  all_goals first | (with_reducible exact True.intro) | (as_aux_lemma => kernel_rfl)

theorem over6 : Rows.providerKeepsRow.holds Tryz.pinned (OpenSpec.ofChange Rows.providerKeepsSpec) :=
  OpenClaim.holds_of_wide 6 Tryz.f6 rfl rfl rfl rfl rfl rfl rfl ⟨rfl, rfl, rfl, rfl, rfl⟩ rfl rfl rfl rfl rfl (by as_aux_lemma => kernel_rfl) Tryz.func6 joined6
    (of_decide_eq_true (by kernel_rfl)) (by unfold Func.isWrapper; first | (rw [if_pos (by decide +kernel)]; kernel_rfl) | (rw [if_neg (by decide +kernel)]; exact ⟨rfl, rfl⟩))
    (fun os started H enc _ => lifted6 os started H enc)

theorem provedProviderKeeps : Rows.ProviderKeepsSaid :=
  over6

end Go.Proofs.YtknbejjfejdppaaGreat.Ab
