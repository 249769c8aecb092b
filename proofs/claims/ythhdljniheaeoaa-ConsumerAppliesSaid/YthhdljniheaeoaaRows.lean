/-
  No cell of these rows narrows 'for every input' (looked for: loops, veiled, ifaces, maps, wideKeys, modest, calm, conditions, laid).
  DERIVED. THE GIVEN ROWS OF THIS SEAT. 7 by the template 'for every input the law returns true; each argument reads behind the call as it read before'; 0 by the template 'total and deterministic' (their statements: YthhdljniheaeoaaTotals.lean).
  GIVEN WITH THE SEED: the statements are not yours to turn. If you find one false, say at which input.
  Laid BY PROGRAM, IN A SANDBOX (cutbox-rows.mjs): the forced cells as the released guide's own fill.sh prints them over the translation 7a875f1299ea6060… (all of the seat's roots in one cut). By AI agents, Wed Nov 11 2026. No macro, syntax, notation, axiom, sorry.
-/
import Derived.Test.YthhdljniheaeoaaChecked
import GoSem.Claim
import GoSem.ClaimJoined
import GoSem.ClaimMapViews
import Derived.JoinedTies
import Derived.KernelRfl
namespace Go.Proofs.Ythhdljniheaeoaa
/- THE CELL 'sum', in the pinned program and in every row, IS THE sha256 OF THE DUMP (.gsa) THAT YthhdljniheaeoaaProg.lean LOADS. Nothing in Lean hashes anything: it is a label: what it is worth is what the hold of that sum in a sandbox is worth. -/
noncomputable def Try.pinned : Pinned := { name := "ythhdljniheaeoaa", sum := "7a875f1299ea6060b7a53a3b6000e4a139b094b13734a7a75f9d146eec4a8dab", checked := Try.checked }
namespace Rows
def none {H : Type} : Left H := { results := [], args := [] }

/-- 'suzerainlaw.ConsumerBegins': WHATEVER THE INPUT: true; the input reads as it did. -/
def consumerBeginsSpec : ChangeSpec := { name := "consumerBegins", fn := fun _ => fun
  | [d1, d2, d3] => { results := [.lit (.bool true)], args := [d1, d2, d3] }
  | _ => none }
def consumerBeginsRow : OpenClaim := { program := "ythhdljniheaeoaa", sum := "7a875f1299ea6060b7a53a3b6000e4a139b094b13734a7a75f9d146eec4a8dab", func := "suzerain/suzerainlaw.ConsumerBegins", spec := "consumerBegins", unfollowed := true, recurses := true, apart := false }
def ConsumerBeginsSaid : Prop := consumerBeginsRow.holds Try.pinned (OpenSpec.ofChange consumerBeginsSpec)

/-- ITS FALSE NEIGHBOUR: 'it returns false'. Refute it at one input. -/
def consumerBeginsWrong : ChangeSpec := { name := "consumerBegins", fn := fun _ => fun
  | [d1, d2, d3] => { results := [.lit (.bool false)], args := [d1, d2, d3] }
  | _ => none }
def ConsumerBeginsWrongFalsely : Prop := consumerBeginsRow.holds Try.pinned (OpenSpec.ofChange consumerBeginsWrong)

/-- 'suzerainlaw.ConsumerEnds': WHATEVER THE INPUT: true; the input reads as it did. -/
def consumerEndsSpec : ChangeSpec := { name := "consumerEnds", fn := fun _ => fun
  | [d1, d2] => { results := [.lit (.bool true)], args := [d1, d2] }
  | _ => none }
def consumerEndsRow : OpenClaim := { program := "ythhdljniheaeoaa", sum := "7a875f1299ea6060b7a53a3b6000e4a139b094b13734a7a75f9d146eec4a8dab", func := "suzerain/suzerainlaw.ConsumerEnds", spec := "consumerEnds", unfollowed := true, recurses := true, apart := false }
def ConsumerEndsSaid : Prop := consumerEndsRow.holds Try.pinned (OpenSpec.ofChange consumerEndsSpec)

/-- ITS FALSE NEIGHBOUR: 'it returns false'. Refute it at one input. -/
def consumerEndsWrong : ChangeSpec := { name := "consumerEnds", fn := fun _ => fun
  | [d1, d2] => { results := [.lit (.bool false)], args := [d1, d2] }
  | _ => none }
def ConsumerEndsWrongFalsely : Prop := consumerEndsRow.holds Try.pinned (OpenSpec.ofChange consumerEndsWrong)

/-- 'suzerainlaw.ConsumerTells': WHATEVER THE INPUT: true; the input reads as it did. -/
def consumerTellsSpec : ChangeSpec := { name := "consumerTells", fn := fun _ => fun
  | [d1, d2, d3, d4] => { results := [.lit (.bool true)], args := [d1, d2, d3, d4] }
  | _ => none }
def consumerTellsRow : OpenClaim := { program := "ythhdljniheaeoaa", sum := "7a875f1299ea6060b7a53a3b6000e4a139b094b13734a7a75f9d146eec4a8dab", func := "suzerain/suzerainlaw.ConsumerTells", spec := "consumerTells", unfollowed := true, recurses := true, apart := false }
def ConsumerTellsSaid : Prop := consumerTellsRow.holds Try.pinned (OpenSpec.ofChange consumerTellsSpec)

/-- ITS FALSE NEIGHBOUR: 'it returns false'. Refute it at one input. -/
def consumerTellsWrong : ChangeSpec := { name := "consumerTells", fn := fun _ => fun
  | [d1, d2, d3, d4] => { results := [.lit (.bool false)], args := [d1, d2, d3, d4] }
  | _ => none }
def ConsumerTellsWrongFalsely : Prop := consumerTellsRow.holds Try.pinned (OpenSpec.ofChange consumerTellsWrong)

/-- 'suzerainlaw.ConsumerHears': WHATEVER THE INPUT: true; the input reads as it did. -/
def consumerHearsSpec : ChangeSpec := { name := "consumerHears", fn := fun _ => fun
  | [d1, d2] => { results := [.lit (.bool true)], args := [d1, d2] }
  | _ => none }
def consumerHearsRow : OpenClaim := { program := "ythhdljniheaeoaa", sum := "7a875f1299ea6060b7a53a3b6000e4a139b094b13734a7a75f9d146eec4a8dab", func := "suzerain/suzerainlaw.ConsumerHears", spec := "consumerHears", unfollowed := true, recurses := true, apart := false }
def ConsumerHearsSaid : Prop := consumerHearsRow.holds Try.pinned (OpenSpec.ofChange consumerHearsSpec)

/-- ITS FALSE NEIGHBOUR: 'it returns false'. Refute it at one input. -/
def consumerHearsWrong : ChangeSpec := { name := "consumerHears", fn := fun _ => fun
  | [d1, d2] => { results := [.lit (.bool false)], args := [d1, d2] }
  | _ => none }
def ConsumerHearsWrongFalsely : Prop := consumerHearsRow.holds Try.pinned (OpenSpec.ofChange consumerHearsWrong)

/-- 'suzerainkeep.ConsumerRipens': WHATEVER THE INPUT: true; the input reads as it did. -/
def consumerRipensSpec : ChangeSpec := { name := "consumerRipens", fn := fun _ => fun
  | [d1, d2, d3] => { results := [.lit (.bool true)], args := [d1, d2, d3] }
  | _ => none }
def consumerRipensRow : OpenClaim := { program := "ythhdljniheaeoaa", sum := "7a875f1299ea6060b7a53a3b6000e4a139b094b13734a7a75f9d146eec4a8dab", func := "suzerain/suzerainkeep.ConsumerRipens", spec := "consumerRipens", unfollowed := true, recurses := true, apart := false }
def ConsumerRipensSaid : Prop := consumerRipensRow.holds Try.pinned (OpenSpec.ofChange consumerRipensSpec)

/-- ITS FALSE NEIGHBOUR: 'it returns false'. Refute it at one input. -/
def consumerRipensWrong : ChangeSpec := { name := "consumerRipens", fn := fun _ => fun
  | [d1, d2, d3] => { results := [.lit (.bool false)], args := [d1, d2, d3] }
  | _ => none }
def ConsumerRipensWrongFalsely : Prop := consumerRipensRow.holds Try.pinned (OpenSpec.ofChange consumerRipensWrong)

/-- 'suzerainkeep.ConsumerApplies': WHATEVER THE INPUT: true; the input reads as it did. -/
def consumerAppliesSpec : ChangeSpec := { name := "consumerApplies", fn := fun _ => fun
  | [d1, d2, d3, d4] => { results := [.lit (.bool true)], args := [d1, d2, d3, d4] }
  | _ => none }
def consumerAppliesRow : OpenClaim := { program := "ythhdljniheaeoaa", sum := "7a875f1299ea6060b7a53a3b6000e4a139b094b13734a7a75f9d146eec4a8dab", func := "suzerain/suzerainkeep.ConsumerApplies", spec := "consumerApplies", unfollowed := true, recurses := true, apart := false }
def ConsumerAppliesSaid : Prop := consumerAppliesRow.holds Try.pinned (OpenSpec.ofChange consumerAppliesSpec)

/-- ITS FALSE NEIGHBOUR: 'it returns false'. Refute it at one input. -/
def consumerAppliesWrong : ChangeSpec := { name := "consumerApplies", fn := fun _ => fun
  | [d1, d2, d3, d4] => { results := [.lit (.bool false)], args := [d1, d2, d3, d4] }
  | _ => none }
def ConsumerAppliesWrongFalsely : Prop := consumerAppliesRow.holds Try.pinned (OpenSpec.ofChange consumerAppliesWrong)

/-- 'suzerainkeep.ConsumerFlags': WHATEVER THE INPUT: true; the input reads as it did. -/
def consumerFlagsSpec : ChangeSpec := { name := "consumerFlags", fn := fun _ => fun
  | [d1, d2, d3] => { results := [.lit (.bool true)], args := [d1, d2, d3] }
  | _ => none }
def consumerFlagsRow : OpenClaim := { program := "ythhdljniheaeoaa", sum := "7a875f1299ea6060b7a53a3b6000e4a139b094b13734a7a75f9d146eec4a8dab", func := "suzerain/suzerainkeep.ConsumerFlags", spec := "consumerFlags", unfollowed := true, recurses := true, apart := false }
def ConsumerFlagsSaid : Prop := consumerFlagsRow.holds Try.pinned (OpenSpec.ofChange consumerFlagsSpec)

/-- ITS FALSE NEIGHBOUR: 'it returns false'. Refute it at one input. -/
def consumerFlagsWrong : ChangeSpec := { name := "consumerFlags", fn := fun _ => fun
  | [d1, d2, d3] => { results := [.lit (.bool false)], args := [d1, d2, d3] }
  | _ => none }
def ConsumerFlagsWrongFalsely : Prop := consumerFlagsRow.holds Try.pinned (OpenSpec.ofChange consumerFlagsWrong)

/- THE SECOND FORM. 'bulk': how many values and letters a reading holds, each counted each time it is reached (what is shared counts as often as it is met; a slice's spare places count too). A statement '..UptoSaid' is the law's where the arguments, and the package variables that the reading takes, are together of bulk at most 1048576: NARROWER than '..Said'. Prove '..Said' where nothing that the law and all that it calls make is longer than what came in: it says more and counts as full. Else prove '..UptoSaid'. A law counts once. -/
mutual
def uptoBulk {H : Type} : DataW H → Nat
  | .lit (.string bytes) => bytes.length + 1
  | .lit _ => 1
  | .nil => 1
  | .ptr d => uptoBulk d + 1
  | .slice elems spare => uptoBulkAll elems + uptoBulkAll spare + 1
  | .agg parts => uptoBulkAll parts + 1
  | .iface _ d => uptoBulk d + 1
  | .map entries => uptoBulkEntries entries + 1
  | .held _ => 1
def uptoBulkAll {H : Type} : List (DataW H) → Nat
  | [] => 0
  | d :: r => uptoBulk d + uptoBulkAll r
def uptoBulkEntries {H : Type} : List (Lit × DataW H) → Nat
  | [] => 0
  | x :: r => uptoBulkEntry x + uptoBulkEntries r
def uptoBulkEntry {H : Type} : Lit × DataW H → Nat
  | (.string bytes, d) => bytes.length + uptoBulk d + 1
  | (_, d) => uptoBulk d + 1
 end
def uptoSmall : (H : Type) → List (DataW H) → Bool := fun _ ds => decide (uptoBulkAll ds ≤ 1048576)
def OpenSpec.upto (s : _root_.Go.ChangeSpec) : _root_.Go.OpenSpec := { _root_.Go.OpenSpec.ofChange s with cond := some uptoSmall }

/-- 'suzerainlaw.ConsumerBegins', WHERE WHAT IT READS IS OF BULK AT MOST 1048576: true; the input reads as it did. -/
def consumerBeginsUptoRow : OpenClaim := { program := "ythhdljniheaeoaa", sum := "7a875f1299ea6060b7a53a3b6000e4a139b094b13734a7a75f9d146eec4a8dab", func := "suzerain/suzerainlaw.ConsumerBegins", spec := "consumerBegins", unfollowed := true, recurses := true, apart := false, narrowed := true }
def ConsumerBeginsUptoSaid : Prop := consumerBeginsUptoRow.holds Try.pinned (OpenSpec.upto consumerBeginsSpec)

/-- 'suzerainlaw.ConsumerEnds', WHERE WHAT IT READS IS OF BULK AT MOST 1048576: true; the input reads as it did. -/
def consumerEndsUptoRow : OpenClaim := { program := "ythhdljniheaeoaa", sum := "7a875f1299ea6060b7a53a3b6000e4a139b094b13734a7a75f9d146eec4a8dab", func := "suzerain/suzerainlaw.ConsumerEnds", spec := "consumerEnds", unfollowed := true, recurses := true, apart := false, narrowed := true }
def ConsumerEndsUptoSaid : Prop := consumerEndsUptoRow.holds Try.pinned (OpenSpec.upto consumerEndsSpec)

/-- 'suzerainlaw.ConsumerTells', WHERE WHAT IT READS IS OF BULK AT MOST 1048576: true; the input reads as it did. -/
def consumerTellsUptoRow : OpenClaim := { program := "ythhdljniheaeoaa", sum := "7a875f1299ea6060b7a53a3b6000e4a139b094b13734a7a75f9d146eec4a8dab", func := "suzerain/suzerainlaw.ConsumerTells", spec := "consumerTells", unfollowed := true, recurses := true, apart := false, narrowed := true }
def ConsumerTellsUptoSaid : Prop := consumerTellsUptoRow.holds Try.pinned (OpenSpec.upto consumerTellsSpec)

/-- 'suzerainlaw.ConsumerHears', WHERE WHAT IT READS IS OF BULK AT MOST 1048576: true; the input reads as it did. -/
def consumerHearsUptoRow : OpenClaim := { program := "ythhdljniheaeoaa", sum := "7a875f1299ea6060b7a53a3b6000e4a139b094b13734a7a75f9d146eec4a8dab", func := "suzerain/suzerainlaw.ConsumerHears", spec := "consumerHears", unfollowed := true, recurses := true, apart := false, narrowed := true }
def ConsumerHearsUptoSaid : Prop := consumerHearsUptoRow.holds Try.pinned (OpenSpec.upto consumerHearsSpec)

/-- 'suzerainkeep.ConsumerRipens', WHERE WHAT IT READS IS OF BULK AT MOST 1048576: true; the input reads as it did. -/
def consumerRipensUptoRow : OpenClaim := { program := "ythhdljniheaeoaa", sum := "7a875f1299ea6060b7a53a3b6000e4a139b094b13734a7a75f9d146eec4a8dab", func := "suzerain/suzerainkeep.ConsumerRipens", spec := "consumerRipens", unfollowed := true, recurses := true, apart := false, narrowed := true }
def ConsumerRipensUptoSaid : Prop := consumerRipensUptoRow.holds Try.pinned (OpenSpec.upto consumerRipensSpec)

/-- 'suzerainkeep.ConsumerApplies', WHERE WHAT IT READS IS OF BULK AT MOST 1048576: true; the input reads as it did. -/
def consumerAppliesUptoRow : OpenClaim := { program := "ythhdljniheaeoaa", sum := "7a875f1299ea6060b7a53a3b6000e4a139b094b13734a7a75f9d146eec4a8dab", func := "suzerain/suzerainkeep.ConsumerApplies", spec := "consumerApplies", unfollowed := true, recurses := true, apart := false, narrowed := true }
def ConsumerAppliesUptoSaid : Prop := consumerAppliesUptoRow.holds Try.pinned (OpenSpec.upto consumerAppliesSpec)

/-- 'suzerainkeep.ConsumerFlags', WHERE WHAT IT READS IS OF BULK AT MOST 1048576: true; the input reads as it did. -/
def consumerFlagsUptoRow : OpenClaim := { program := "ythhdljniheaeoaa", sum := "7a875f1299ea6060b7a53a3b6000e4a139b094b13734a7a75f9d146eec4a8dab", func := "suzerain/suzerainkeep.ConsumerFlags", spec := "consumerFlags", unfollowed := true, recurses := true, apart := false, narrowed := true }
def ConsumerFlagsUptoSaid : Prop := consumerFlagsUptoRow.holds Try.pinned (OpenSpec.upto consumerFlagsSpec)

end Rows
end Go.Proofs.Ythhdljniheaeoaa
