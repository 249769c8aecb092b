/-
  What the second form's bound gives: each slice and string is short.
-/
import Derived.Test.YthhdljniheaeoaaRows
import Derived.Test.YthhdljniheaeoaaAbOpen
import Derived.ProofKit
import Derived.JoinedCond
namespace Go.Proofs.Ythhdljniheaeoaa.Ab
open Go Go.RowKit
set_option linter.unusedVariables false
set_option linter.unusedSimpArgs false
set_option maxRecDepth 100000

/-- Types whose parts are of the table too, none of them wide. -/
def typesOk (P : Program) (N : Nat) : Bool := (List.range N).all fun t => Nat.ble (P.bytesOf t) 2048 && (match P.underlying t with
  | some (.pointer e) => Nat.blt e N
  | some (.slice e) => Nat.blt e N
  | some (.struct fs) => fs.toList.all fun f => Nat.blt f.type N
  | some (.array _ e) => Nat.blt e N
  | some (.map k e) => Nat.blt k N && Nat.blt e N
  | _ => true)

theorem typesOk_at {P : Program} {N : Nat} (h : typesOk P N = true) {t : Nat} (ht : t < N) : P.bytesOf t ≤ 2048 ∧ (match P.underlying t with
  | some (.pointer e) => Nat.blt e N
  | some (.slice e) => Nat.blt e N
  | some (.struct fs) => fs.toList.all fun f => Nat.blt f.type N
  | some (.array _ e) => Nat.blt e N
  | some (.map k e) => Nat.blt k N && Nat.blt e N
  | _ => true) = true := by
  have := List.all_eq_true.1 h t (List.mem_range.2 ht)
  rw [Bool.and_eq_true] at this
  exact ⟨Nat.le_of_ble_eq_true this.1, this.2⟩

theorem blt_lt {a b : Nat} (h : Nat.blt a b = true) : a < b := Nat.le_of_ble_eq_true h

theorem bulk_one {H : Type} (d : DataW H) : 1 ≤ Rows.uptoBulk d := by
  cases d with
  | lit l => cases l <;> simp [Rows.uptoBulk]
  | nil => simp [Rows.uptoBulk]
  | ptr d => simp [Rows.uptoBulk]
  | slice elems spare => simp [Rows.uptoBulk]
  | agg parts => simp [Rows.uptoBulk]
  | iface t d => simp [Rows.uptoBulk]
  | map entries => simp [Rows.uptoBulk]
  | held h => simp [Rows.uptoBulk]

theorem bulk_len {H : Type} : ∀ l : List (DataW H), l.length ≤ Rows.uptoBulkAll l
  | [] => by simp [Rows.uptoBulkAll]
  | x :: r => by
    have h1 := bulk_one x
    have h2 := bulk_len r
    simp only [Rows.uptoBulkAll, List.length_cons]; omega

theorem bulk_entry {H : Type} (x : Lit × DataW H) : 1 ≤ Rows.uptoBulkEntry x := by
  obtain ⟨l, d⟩ := x
  have := bulk_one d
  cases l <;> simp only [Rows.uptoBulkEntry] <;> omega

theorem bulk_entries {H : Type} : ∀ l : List (Lit × DataW H), l.length ≤ Rows.uptoBulkEntries l
  | [] => by simp [Rows.uptoBulkEntries]
  | x :: r => by
    have h1 := bulk_entry x
    have h2 := bulk_entries r
    simp only [Rows.uptoBulkEntries, List.length_cons]; omega

theorem bulk_up {n a b : Nat} (h : n ≤ a * 4096) (k : a ≤ b) : n ≤ b * 4096 := Nat.le_trans h (Nat.mul_le_mul_right _ k)

mutual
theorem bulk_w {H : Type} {P : Program} {N : Nat} (hb : typesOk P N = true) : ∀ (d : DataW H) (t : TypeId) (n : Nat), t < N → n ∈ d.weights P t → n ≤ Rows.uptoBulk d * 4096
  | .lit (.string bytes), t, n, ht, h => by
    simp only [DataW.weights, List.mem_singleton] at h
    subst h
    simp only [Rows.uptoBulk]
    exact Nat.le_trans (Nat.le_succ _) (Nat.le_mul_of_pos_right _ (by decide))
  | .lit (.int _ _), t, n, ht, h => by simp [DataW.weights] at h
  | .lit (.bool _), t, n, ht, h => by simp [DataW.weights] at h
  | .lit (.float _ _), t, n, ht, h => by simp [DataW.weights] at h
  | .lit .nil, t, n, ht, h => by simp [DataW.weights] at h
  | .nil, t, n, ht, h => by simp [DataW.weights] at h
  | .ptr d, t, n, ht, h => by
    have hp := (typesOk_at hb ht).2
    simp only [DataW.weights] at h
    split at h
    · rename_i e he
      rw [he] at hp
      simp only [Rows.uptoBulk]
      exact bulk_up (bulk_w hb d _ n (blt_lt hp) h) (Nat.le_succ _)
    · cases h
  | .slice elems spare, t, n, ht, h => by
    have hp := (typesOk_at hb ht).2
    simp only [DataW.weights] at h
    split at h
    · rename_i e he
      rw [he] at hp
      simp only [List.mem_cons, List.mem_append] at h
      simp only [Rows.uptoBulk]
      rcases h with rfl | h | h
      · exact Nat.mul_le_mul (Nat.le_succ_of_le (Nat.add_le_add (bulk_len elems) (bulk_len spare))) (Nat.le_trans (typesOk_at hb (blt_lt hp)).1 (by decide))
      · exact bulk_up (bulk_wAll hb elems _ n (blt_lt hp) h) (Nat.le_succ_of_le (Nat.le_add_right _ _))
      · exact bulk_up (bulk_wAll hb spare _ n (blt_lt hp) h) (Nat.le_succ_of_le (Nat.le_add_left _ _))
    · cases h
  | .agg parts, t, n, ht, h => by
    have hp := (typesOk_at hb ht).2
    simp only [DataW.weights] at h
    simp only [Rows.uptoBulk]
    split at h
    · rename_i fs he
      rw [he] at hp
      exact bulk_up (bulk_wEach hb parts _ n (by
        intro x hx
        obtain ⟨f, hf, rfl⟩ := List.mem_map.1 hx
        exact blt_lt (List.all_eq_true.1 hp f hf)) h) (Nat.le_succ _)
    · rename_i k e he
      rw [he] at hp
      exact bulk_up (bulk_wAll hb parts _ n (blt_lt hp) h) (Nat.le_succ _)
    · cases h
  | .iface _ _, t, n, ht, h => by simp [DataW.weights] at h
  | .map entries, t, n, ht, h => by
    have hp := (typesOk_at hb ht).2
    simp only [DataW.weights] at h
    simp only [Rows.uptoBulk]
    split at h
    · rename_i k e he
      rw [he] at hp
      simp only [Bool.and_eq_true] at hp
      simp only [List.mem_cons] at h
      rcases h with rfl | h
      · exact Nat.mul_le_mul (Nat.le_succ_of_le (bulk_entries entries)) (Nat.add_le_add (typesOk_at hb (blt_lt hp.1)).1 (typesOk_at hb (blt_lt hp.2)).1)
      · exact bulk_up (bulk_wEntries hb entries _ n (blt_lt hp.2) h) (Nat.le_succ _)
    · cases h
  | .held _, t, n, ht, h => by simp [DataW.weights] at h
theorem bulk_wAll {H : Type} {P : Program} {N : Nat} (hb : typesOk P N = true) : ∀ (l : List (DataW H)) (t : TypeId) (n : Nat), t < N → n ∈ DataW.weightsAll P t l → n ≤ Rows.uptoBulkAll l * 4096
  | [], t, n, ht, h => by simp [DataW.weightsAll] at h
  | d :: r, t, n, ht, h => by
    simp only [DataW.weightsAll, List.mem_append] at h
    simp only [Rows.uptoBulkAll]
    rcases h with h | h
    · exact bulk_up (bulk_w hb d _ n ht h) (Nat.le_add_right _ _)
    · exact bulk_up (bulk_wAll hb r _ n ht h) (Nat.le_add_left _ _)
theorem bulk_wEach {H : Type} {P : Program} {N : Nat} (hb : typesOk P N = true) : ∀ (l : List (DataW H)) (ts : List TypeId) (n : Nat), (∀ t, t ∈ ts → t < N) → n ∈ DataW.weightsEach P ts l → n ≤ Rows.uptoBulkAll l * 4096
  | [], ts, n, ht, h => by cases ts <;> simp [DataW.weightsEach] at h
  | d :: r, [], n, ht, h => by simp [DataW.weightsEach] at h
  | d :: r, t :: ts, n, ht, h => by
    simp only [DataW.weightsEach, List.mem_append] at h
    simp only [Rows.uptoBulkAll]
    rcases h with h | h
    · exact bulk_up (bulk_w hb d _ n (ht t (List.mem_cons_self ..)) h) (Nat.le_add_right _ _)
    · exact bulk_up (bulk_wEach hb r ts n (fun x hx => ht x (List.mem_cons_of_mem _ hx)) h) (Nat.le_add_left _ _)
theorem bulk_wEntries {H : Type} {P : Program} {N : Nat} (hb : typesOk P N = true) : ∀ (l : List (Lit × DataW H)) (t : TypeId) (n : Nat), t < N → n ∈ DataW.weightsEntries P t l → n ≤ Rows.uptoBulkEntries l * 4096
  | [], t, n, ht, h => by simp [DataW.weightsEntries] at h
  | x :: r, t, n, ht, h => by
    simp only [DataW.weightsEntries, List.mem_append] at h
    simp only [Rows.uptoBulkEntries]
    rcases h with h | h
    · exact bulk_up (bulk_wEntry hb x _ n ht h) (Nat.le_add_right _ _)
    · exact bulk_up (bulk_wEntries hb r _ n ht h) (Nat.le_add_left _ _)
theorem bulk_wEntry {H : Type} {P : Program} {N : Nat} (hb : typesOk P N = true) : ∀ (x : Lit × DataW H) (t : TypeId) (n : Nat), t < N → n ∈ DataW.weightsEntry P t x → n ≤ Rows.uptoBulkEntry x * 4096
  | (.string bytes, d), t, n, ht, h => by
    simp only [DataW.weightsEntry, List.mem_cons] at h
    simp only [Rows.uptoBulkEntry]
    rcases h with rfl | h
    · exact Nat.le_trans (Nat.le_succ_of_le (Nat.le_add_right _ _)) (Nat.le_mul_of_pos_right _ (by decide))
    · exact bulk_up (bulk_w hb d _ n ht h) (Nat.le_succ_of_le (Nat.le_add_left _ _))
  | (.int _ _, d), t, n, ht, h => by
    simp only [DataW.weightsEntry] at h
    simp only [Rows.uptoBulkEntry]
    exact bulk_up (bulk_w hb d _ n ht h) (Nat.le_succ _)
  | (.bool _, d), t, n, ht, h => by
    simp only [DataW.weightsEntry] at h
    simp only [Rows.uptoBulkEntry]
    exact bulk_up (bulk_w hb d _ n ht h) (Nat.le_succ _)
  | (.float _ _, d), t, n, ht, h => by
    simp only [DataW.weightsEntry] at h
    simp only [Rows.uptoBulkEntry]
    exact bulk_up (bulk_w hb d _ n ht h) (Nat.le_succ _)
  | (.nil, d), t, n, ht, h => by
    simp only [DataW.weightsEntry] at h
    simp only [Rows.uptoBulkEntry]
    exact bulk_up (bulk_w hb d _ n ht h) (Nat.le_succ _)
end

theorem bulk_part {H : Type} {d : DataW H} : ∀ {l : List (DataW H)}, d ∈ l → Rows.uptoBulk d ≤ Rows.uptoBulkAll l
  | x :: r, h => by
    simp only [Rows.uptoBulkAll]
    cases List.mem_cons.1 h with
    | inl e => subst e; omega
    | inr e => have := bulk_part e; omega

theorem wt_of_bulk {H : Type} {P : Program} {N : Nat} (hb : typesOk P N = true) {l : List (DataW H)} (hk : Rows.uptoSmall H l = true) {d : DataW H} (hd : d ∈ l) {t : TypeId} (ht : Nat.blt t N = true) : Wt 4294967296 P t d := by
  intro n hn
  have h1 := bulk_w hb d t n (blt_lt ht) hn
  have h2 := bulk_part hd
  have h3 : Rows.uptoBulkAll l ≤ 1048576 := of_decide_eq_true hk
  exact Nat.le_trans (bulk_up h1 (Nat.le_trans h2 h3)) (by decide)

theorem bulk_types : typesOk Try.prog Try.prog.types.size = true := by kernel_rfl

end Go.Proofs.Ythhdljniheaeoaa.Ab
