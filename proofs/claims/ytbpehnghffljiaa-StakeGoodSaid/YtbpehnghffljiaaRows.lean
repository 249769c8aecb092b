/-
  No cell of these rows narrows 'for every input' (looked for: loops, veiled, ifaces, maps, wideKeys, modest, calm, conditions, laid).
  DERIVED. THE GIVEN ROWS OF THIS SEAT. 12 by the template 'for every input the law returns true; each argument reads behind the call as it read before'; 0 by the template 'total and deterministic' (their statements: YtbpehnghffljiaaTotals.lean).
  GIVEN WITH THE SEED: the statements are not yours to turn. If you find one false, say at which input.
  Laid BY PROGRAM, IN A SANDBOX (cutbox-rows.mjs): the forced cells as the released guide's own fill.sh prints them over the translation 5437bd300394656a… (all of the seat's roots in one cut). By AI agents, Wed Nov 11 2026. No macro, syntax, notation, axiom, sorry.
-/
import Derived.Test.YtbpehnghffljiaaChecked
import GoSem.Claim
import GoSem.ClaimJoined
import GoSem.ClaimMapViews
import Derived.JoinedTies
import Derived.KernelRfl
namespace Go.Proofs.Ytbpehnghffljiaa
/- THE CELL 'sum', in the pinned program and in every row, IS THE sha256 OF THE DUMP (.gsa) THAT YtbpehnghffljiaaProg.lean LOADS. Nothing in Lean hashes anything: it is a label: what it is worth is what the hold of that sum in a sandbox is worth. -/
noncomputable def Try.pinned : Pinned := { name := "ytbpehnghffljiaa", sum := "5437bd300394656af8b39c85abb32aba404bf3d37a287e157554afc5f9b2662c", checked := Try.checked }
namespace Rows
def none {H : Type} : Left H := { results := [], args := [] }

/-- 'suzerainlaw.StakeDelegates': WHATEVER THE INPUT: true; the input reads as it did. -/
def stakeDelegatesSpec : ChangeSpec := { name := "stakeDelegates", fn := fun _ => fun
  | [d1, d2, d3, d4] => { results := [.lit (.bool true)], args := [d1, d2, d3, d4] }
  | _ => none }
def stakeDelegatesRow : OpenClaim := { program := "ytbpehnghffljiaa", sum := "5437bd300394656af8b39c85abb32aba404bf3d37a287e157554afc5f9b2662c", func := "suzerain/suzerainlaw.StakeDelegates", spec := "stakeDelegates", inPlace := ["internal/reflectlite.ValueOf", "internal/reflectlite.Swapper", "(internal/reflectlite.Value).Len"], unfollowed := true, recurses := true, named := ["math/bits.divideError", "math/bits.overflowError"], apart := false }
def StakeDelegatesSaid : Prop := stakeDelegatesRow.holds Try.pinned (OpenSpec.ofChange stakeDelegatesSpec)

/-- ITS FALSE NEIGHBOUR: 'it returns false'. Refute it at one input. -/
def stakeDelegatesWrong : ChangeSpec := { name := "stakeDelegates", fn := fun _ => fun
  | [d1, d2, d3, d4] => { results := [.lit (.bool false)], args := [d1, d2, d3, d4] }
  | _ => none }
def StakeDelegatesWrongFalsely : Prop := stakeDelegatesRow.holds Try.pinned (OpenSpec.ofChange stakeDelegatesWrong)

/-- 'suzerainkeep.StakeSet': WHATEVER THE INPUT: true; the input reads as it did. -/
def stakeSetSpec : ChangeSpec := { name := "stakeSet", fn := fun _ => fun
  | [d] => { results := [.lit (.bool true)], args := [d] }
  | _ => none }
def stakeSetRow : OpenClaim := { program := "ytbpehnghffljiaa", sum := "5437bd300394656af8b39c85abb32aba404bf3d37a287e157554afc5f9b2662c", func := "suzerain/suzerainkeep.StakeSet", spec := "stakeSet", inPlace := ["internal/reflectlite.ValueOf", "internal/reflectlite.Swapper", "(internal/reflectlite.Value).Len"], unfollowed := true, recurses := true, named := ["math/bits.divideError", "math/bits.overflowError"], apart := false }
def StakeSetSaid : Prop := stakeSetRow.holds Try.pinned (OpenSpec.ofChange stakeSetSpec)

/-- ITS FALSE NEIGHBOUR: 'it returns false'. Refute it at one input. -/
def stakeSetWrong : ChangeSpec := { name := "stakeSet", fn := fun _ => fun
  | [d] => { results := [.lit (.bool false)], args := [d] }
  | _ => none }
def StakeSetWrongFalsely : Prop := stakeSetRow.holds Try.pinned (OpenSpec.ofChange stakeSetWrong)

/-- 'suzerainkeep.StakePaid': WHATEVER THE INPUT: true; the input reads as it did. -/
def stakePaidSpec : ChangeSpec := { name := "stakePaid", fn := fun _ => fun
  | [d1, d2] => { results := [.lit (.bool true)], args := [d1, d2] }
  | _ => none }
def stakePaidRow : OpenClaim := { program := "ytbpehnghffljiaa", sum := "5437bd300394656af8b39c85abb32aba404bf3d37a287e157554afc5f9b2662c", func := "suzerain/suzerainkeep.StakePaid", spec := "stakePaid", inPlace := ["internal/reflectlite.ValueOf", "internal/reflectlite.Swapper", "(internal/reflectlite.Value).Len"], unfollowed := true, recurses := true, named := ["math/bits.divideError", "math/bits.overflowError"], apart := false }
def StakePaidSaid : Prop := stakePaidRow.holds Try.pinned (OpenSpec.ofChange stakePaidSpec)

/-- ITS FALSE NEIGHBOUR: 'it returns false'. Refute it at one input. -/
def stakePaidWrong : ChangeSpec := { name := "stakePaid", fn := fun _ => fun
  | [d1, d2] => { results := [.lit (.bool false)], args := [d1, d2] }
  | _ => none }
def StakePaidWrongFalsely : Prop := stakePaidRow.holds Try.pinned (OpenSpec.ofChange stakePaidWrong)

/-- 'suzerainlaw.StakeJudges': WHATEVER THE INPUT: true; the input reads as it did. -/
def stakeJudgesSpec : ChangeSpec := { name := "stakeJudges", fn := fun _ => fun
  | [d1, d2] => { results := [.lit (.bool true)], args := [d1, d2] }
  | _ => none }
def stakeJudgesRow : OpenClaim := { program := "ytbpehnghffljiaa", sum := "5437bd300394656af8b39c85abb32aba404bf3d37a287e157554afc5f9b2662c", func := "suzerain/suzerainlaw.StakeJudges", spec := "stakeJudges", inPlace := ["internal/reflectlite.ValueOf", "internal/reflectlite.Swapper", "(internal/reflectlite.Value).Len"], unfollowed := true, recurses := true, named := ["math/bits.divideError", "math/bits.overflowError"], apart := false }
def StakeJudgesSaid : Prop := stakeJudgesRow.holds Try.pinned (OpenSpec.ofChange stakeJudgesSpec)

/-- ITS FALSE NEIGHBOUR: 'it returns false'. Refute it at one input. -/
def stakeJudgesWrong : ChangeSpec := { name := "stakeJudges", fn := fun _ => fun
  | [d1, d2] => { results := [.lit (.bool false)], args := [d1, d2] }
  | _ => none }
def StakeJudgesWrongFalsely : Prop := stakeJudgesRow.holds Try.pinned (OpenSpec.ofChange stakeJudgesWrong)

/-- 'suzerainlaw.StakeSets': WHATEVER THE INPUT: true; the input reads as it did. -/
def stakeSetsSpec : ChangeSpec := { name := "stakeSets", fn := fun _ => fun
  | [d1, d2, d3] => { results := [.lit (.bool true)], args := [d1, d2, d3] }
  | _ => none }
def stakeSetsRow : OpenClaim := { program := "ytbpehnghffljiaa", sum := "5437bd300394656af8b39c85abb32aba404bf3d37a287e157554afc5f9b2662c", func := "suzerain/suzerainlaw.StakeSets", spec := "stakeSets", inPlace := ["internal/reflectlite.ValueOf", "internal/reflectlite.Swapper", "(internal/reflectlite.Value).Len"], unfollowed := true, recurses := true, named := ["math/bits.divideError", "math/bits.overflowError"], apart := false }
def StakeSetsSaid : Prop := stakeSetsRow.holds Try.pinned (OpenSpec.ofChange stakeSetsSpec)

/-- ITS FALSE NEIGHBOUR: 'it returns false'. Refute it at one input. -/
def stakeSetsWrong : ChangeSpec := { name := "stakeSets", fn := fun _ => fun
  | [d1, d2, d3] => { results := [.lit (.bool false)], args := [d1, d2, d3] }
  | _ => none }
def StakeSetsWrongFalsely : Prop := stakeSetsRow.holds Try.pinned (OpenSpec.ofChange stakeSetsWrong)

/-- 'suzerainkeep.StakeDiffs': WHATEVER THE INPUT: true; the input reads as it did. -/
def stakeDiffsSpec : ChangeSpec := { name := "stakeDiffs", fn := fun _ => fun
  | [d1, d2, d3] => { results := [.lit (.bool true)], args := [d1, d2, d3] }
  | _ => none }
def stakeDiffsRow : OpenClaim := { program := "ytbpehnghffljiaa", sum := "5437bd300394656af8b39c85abb32aba404bf3d37a287e157554afc5f9b2662c", func := "suzerain/suzerainkeep.StakeDiffs", spec := "stakeDiffs", inPlace := ["internal/reflectlite.ValueOf", "internal/reflectlite.Swapper", "(internal/reflectlite.Value).Len"], unfollowed := true, recurses := true, named := ["math/bits.divideError", "math/bits.overflowError"], apart := false }
def StakeDiffsSaid : Prop := stakeDiffsRow.holds Try.pinned (OpenSpec.ofChange stakeDiffsSpec)

/-- ITS FALSE NEIGHBOUR: 'it returns false'. Refute it at one input. -/
def stakeDiffsWrong : ChangeSpec := { name := "stakeDiffs", fn := fun _ => fun
  | [d1, d2, d3] => { results := [.lit (.bool false)], args := [d1, d2, d3] }
  | _ => none }
def StakeDiffsWrongFalsely : Prop := stakeDiffsRow.holds Try.pinned (OpenSpec.ofChange stakeDiffsWrong)

/-- 'suzerainlaw.StakeUndelegates': WHATEVER THE INPUT: true; the input reads as it did. -/
def stakeUndelegatesSpec : ChangeSpec := { name := "stakeUndelegates", fn := fun _ => fun
  | [d1, d2, d3, d4, d5] => { results := [.lit (.bool true)], args := [d1, d2, d3, d4, d5] }
  | _ => none }
def stakeUndelegatesRow : OpenClaim := { program := "ytbpehnghffljiaa", sum := "5437bd300394656af8b39c85abb32aba404bf3d37a287e157554afc5f9b2662c", func := "suzerain/suzerainlaw.StakeUndelegates", spec := "stakeUndelegates", inPlace := ["internal/reflectlite.ValueOf", "internal/reflectlite.Swapper", "(internal/reflectlite.Value).Len"], unfollowed := true, recurses := true, named := ["math/bits.divideError", "math/bits.overflowError"], apart := false }
def StakeUndelegatesSaid : Prop := stakeUndelegatesRow.holds Try.pinned (OpenSpec.ofChange stakeUndelegatesSpec)

/-- ITS FALSE NEIGHBOUR: 'it returns false'. Refute it at one input. -/
def stakeUndelegatesWrong : ChangeSpec := { name := "stakeUndelegates", fn := fun _ => fun
  | [d1, d2, d3, d4, d5] => { results := [.lit (.bool false)], args := [d1, d2, d3, d4, d5] }
  | _ => none }
def StakeUndelegatesWrongFalsely : Prop := stakeUndelegatesRow.holds Try.pinned (OpenSpec.ofChange stakeUndelegatesWrong)

/-- 'suzerainkeep.StakeRound': WHATEVER THE INPUT: true; the input reads as it did. -/
def stakeRoundSpec : ChangeSpec := { name := "stakeRound", fn := fun _ => fun
  | [d1, d2, d3, d4] => { results := [.lit (.bool true)], args := [d1, d2, d3, d4] }
  | _ => none }
def stakeRoundRow : OpenClaim := { program := "ytbpehnghffljiaa", sum := "5437bd300394656af8b39c85abb32aba404bf3d37a287e157554afc5f9b2662c", func := "suzerain/suzerainkeep.StakeRound", spec := "stakeRound", inPlace := ["internal/reflectlite.ValueOf", "internal/reflectlite.Swapper", "(internal/reflectlite.Value).Len"], unfollowed := true, recurses := true, named := ["math/bits.divideError", "math/bits.overflowError"], apart := false }
def StakeRoundSaid : Prop := stakeRoundRow.holds Try.pinned (OpenSpec.ofChange stakeRoundSpec)

/-- ITS FALSE NEIGHBOUR: 'it returns false'. Refute it at one input. -/
def stakeRoundWrong : ChangeSpec := { name := "stakeRound", fn := fun _ => fun
  | [d1, d2, d3, d4] => { results := [.lit (.bool false)], args := [d1, d2, d3, d4] }
  | _ => none }
def StakeRoundWrongFalsely : Prop := stakeRoundRow.holds Try.pinned (OpenSpec.ofChange stakeRoundWrong)

/-- 'suzerainlaw.StakePays': WHATEVER THE INPUT: true; the input reads as it did. -/
def stakePaysSpec : ChangeSpec := { name := "stakePays", fn := fun _ => fun
  | [d1, d2, d3, d4] => { results := [.lit (.bool true)], args := [d1, d2, d3, d4] }
  | _ => none }
def stakePaysRow : OpenClaim := { program := "ytbpehnghffljiaa", sum := "5437bd300394656af8b39c85abb32aba404bf3d37a287e157554afc5f9b2662c", func := "suzerain/suzerainlaw.StakePays", spec := "stakePays", inPlace := ["internal/reflectlite.ValueOf", "internal/reflectlite.Swapper", "(internal/reflectlite.Value).Len"], unfollowed := true, recurses := true, named := ["math/bits.divideError", "math/bits.overflowError"], apart := false }
def StakePaysSaid : Prop := stakePaysRow.holds Try.pinned (OpenSpec.ofChange stakePaysSpec)

/-- ITS FALSE NEIGHBOUR: 'it returns false'. Refute it at one input. -/
def stakePaysWrong : ChangeSpec := { name := "stakePays", fn := fun _ => fun
  | [d1, d2, d3, d4] => { results := [.lit (.bool false)], args := [d1, d2, d3, d4] }
  | _ => none }
def StakePaysWrongFalsely : Prop := stakePaysRow.holds Try.pinned (OpenSpec.ofChange stakePaysWrong)

/-- 'suzerainlaw.StakeSlashes': WHATEVER THE INPUT: true; the input reads as it did. -/
def stakeSlashesSpec : ChangeSpec := { name := "stakeSlashes", fn := fun _ => fun
  | [d1, d2, d3, d4] => { results := [.lit (.bool true)], args := [d1, d2, d3, d4] }
  | _ => none }
def stakeSlashesRow : OpenClaim := { program := "ytbpehnghffljiaa", sum := "5437bd300394656af8b39c85abb32aba404bf3d37a287e157554afc5f9b2662c", func := "suzerain/suzerainlaw.StakeSlashes", spec := "stakeSlashes", inPlace := ["internal/reflectlite.ValueOf", "internal/reflectlite.Swapper", "(internal/reflectlite.Value).Len"], unfollowed := true, recurses := true, named := ["math/bits.divideError", "math/bits.overflowError"], apart := false }
def StakeSlashesSaid : Prop := stakeSlashesRow.holds Try.pinned (OpenSpec.ofChange stakeSlashesSpec)

/-- ITS FALSE NEIGHBOUR: 'it returns false'. Refute it at one input. -/
def stakeSlashesWrong : ChangeSpec := { name := "stakeSlashes", fn := fun _ => fun
  | [d1, d2, d3, d4] => { results := [.lit (.bool false)], args := [d1, d2, d3, d4] }
  | _ => none }
def StakeSlashesWrongFalsely : Prop := stakeSlashesRow.holds Try.pinned (OpenSpec.ofChange stakeSlashesWrong)

/-- 'suzerainkeep.StakeSlashed': WHATEVER THE INPUT: true; the input reads as it did. -/
def stakeSlashedSpec : ChangeSpec := { name := "stakeSlashed", fn := fun _ => fun
  | [d1, d2, d3, d4] => { results := [.lit (.bool true)], args := [d1, d2, d3, d4] }
  | _ => none }
def stakeSlashedRow : OpenClaim := { program := "ytbpehnghffljiaa", sum := "5437bd300394656af8b39c85abb32aba404bf3d37a287e157554afc5f9b2662c", func := "suzerain/suzerainkeep.StakeSlashed", spec := "stakeSlashed", inPlace := ["internal/reflectlite.ValueOf", "internal/reflectlite.Swapper", "(internal/reflectlite.Value).Len"], unfollowed := true, recurses := true, named := ["math/bits.divideError", "math/bits.overflowError"], apart := false }
def StakeSlashedSaid : Prop := stakeSlashedRow.holds Try.pinned (OpenSpec.ofChange stakeSlashedSpec)

/-- ITS FALSE NEIGHBOUR: 'it returns false'. Refute it at one input. -/
def stakeSlashedWrong : ChangeSpec := { name := "stakeSlashed", fn := fun _ => fun
  | [d1, d2, d3, d4] => { results := [.lit (.bool false)], args := [d1, d2, d3, d4] }
  | _ => none }
def StakeSlashedWrongFalsely : Prop := stakeSlashedRow.holds Try.pinned (OpenSpec.ofChange stakeSlashedWrong)

/-- 'suzerainkeep.StakeGood': WHATEVER THE INPUT: true; the input reads as it did. -/
def stakeGoodSpec : ChangeSpec := { name := "stakeGood", fn := fun _ => fun
  | [d] => { results := [.lit (.bool true)], args := [d] }
  | _ => none }
def stakeGoodRow : OpenClaim := { program := "ytbpehnghffljiaa", sum := "5437bd300394656af8b39c85abb32aba404bf3d37a287e157554afc5f9b2662c", func := "suzerain/suzerainkeep.StakeGood", spec := "stakeGood", inPlace := ["internal/reflectlite.ValueOf", "internal/reflectlite.Swapper", "(internal/reflectlite.Value).Len"], unfollowed := true, recurses := true, named := ["math/bits.divideError", "math/bits.overflowError"], apart := false }
def StakeGoodSaid : Prop := stakeGoodRow.holds Try.pinned (OpenSpec.ofChange stakeGoodSpec)

/-- ITS FALSE NEIGHBOUR: 'it returns false'. Refute it at one input. -/
def stakeGoodWrong : ChangeSpec := { name := "stakeGood", fn := fun _ => fun
  | [d] => { results := [.lit (.bool false)], args := [d] }
  | _ => none }
def StakeGoodWrongFalsely : Prop := stakeGoodRow.holds Try.pinned (OpenSpec.ofChange stakeGoodWrong)

/- THE SECOND FORM. 'bulk': how many values and letters a reading holds, each counted each time it is reached (what is shared counts as often as it is met; a slice's spare places count too). A statement '..UptoSaid' is the law's where the arguments, and the package variables that the reading takes, are together of bulk at most 1048576: NARROWER than '..Said'. Prove '..Said' where nothing that the law and all that it calls make is longer than what came in: it says more and counts as full. Else prove '..UptoSaid'. A law counts once. -/
mutual
def uptoBulk {H : Type} : DataW H → Nat
  | .lit (.string bytes) => bytes.length + 1
  | .lit _ => 1
  | .nil => 1
  | .ptr d => uptoBulk d + 1
  | .slice elems spare => uptoBulkAll elems + uptoBulkAll spare + 1
  | .agg parts => uptoBulkAll parts + 1
  | .iface _ d => uptoBulk d + 1
  | .map entries => uptoBulkEntries entries + 1
  | .held _ => 1
def uptoBulkAll {H : Type} : List (DataW H) → Nat
  | [] => 0
  | d :: r => uptoBulk d + uptoBulkAll r
def uptoBulkEntries {H : Type} : List (Lit × DataW H) → Nat
  | [] => 0
  | x :: r => uptoBulkEntry x + uptoBulkEntries r
def uptoBulkEntry {H : Type} : Lit × DataW H → Nat
  | (.string bytes, d) => bytes.length + uptoBulk d + 1
  | (_, d) => uptoBulk d + 1
 end
def uptoSmall : (H : Type) → List (DataW H) → Bool := fun _ ds => decide (uptoBulkAll ds ≤ 1048576)
def OpenSpec.upto (s : _root_.Go.ChangeSpec) : _root_.Go.OpenSpec := { _root_.Go.OpenSpec.ofChange s with cond := some uptoSmall }

/-- 'suzerainlaw.StakeDelegates', WHERE WHAT IT READS IS OF BULK AT MOST 1048576: true; the input reads as it did. -/
def stakeDelegatesUptoRow : OpenClaim := { program := "ytbpehnghffljiaa", sum := "5437bd300394656af8b39c85abb32aba404bf3d37a287e157554afc5f9b2662c", func := "suzerain/suzerainlaw.StakeDelegates", spec := "stakeDelegates", inPlace := ["internal/reflectlite.ValueOf", "internal/reflectlite.Swapper", "(internal/reflectlite.Value).Len"], unfollowed := true, recurses := true, named := ["math/bits.divideError", "math/bits.overflowError"], apart := false, narrowed := true }
def StakeDelegatesUptoSaid : Prop := stakeDelegatesUptoRow.holds Try.pinned (OpenSpec.upto stakeDelegatesSpec)

/-- 'suzerainkeep.StakeSet', WHERE WHAT IT READS IS OF BULK AT MOST 1048576: true; the input reads as it did. -/
def stakeSetUptoRow : OpenClaim := { program := "ytbpehnghffljiaa", sum := "5437bd300394656af8b39c85abb32aba404bf3d37a287e157554afc5f9b2662c", func := "suzerain/suzerainkeep.StakeSet", spec := "stakeSet", inPlace := ["internal/reflectlite.ValueOf", "internal/reflectlite.Swapper", "(internal/reflectlite.Value).Len"], unfollowed := true, recurses := true, named := ["math/bits.divideError", "math/bits.overflowError"], apart := false, narrowed := true }
def StakeSetUptoSaid : Prop := stakeSetUptoRow.holds Try.pinned (OpenSpec.upto stakeSetSpec)

/-- 'suzerainkeep.StakePaid', WHERE WHAT IT READS IS OF BULK AT MOST 1048576: true; the input reads as it did. -/
def stakePaidUptoRow : OpenClaim := { program := "ytbpehnghffljiaa", sum := "5437bd300394656af8b39c85abb32aba404bf3d37a287e157554afc5f9b2662c", func := "suzerain/suzerainkeep.StakePaid", spec := "stakePaid", inPlace := ["internal/reflectlite.ValueOf", "internal/reflectlite.Swapper", "(internal/reflectlite.Value).Len"], unfollowed := true, recurses := true, named := ["math/bits.divideError", "math/bits.overflowError"], apart := false, narrowed := true }
def StakePaidUptoSaid : Prop := stakePaidUptoRow.holds Try.pinned (OpenSpec.upto stakePaidSpec)

/-- 'suzerainlaw.StakeJudges', WHERE WHAT IT READS IS OF BULK AT MOST 1048576: true; the input reads as it did. -/
def stakeJudgesUptoRow : OpenClaim := { program := "ytbpehnghffljiaa", sum := "5437bd300394656af8b39c85abb32aba404bf3d37a287e157554afc5f9b2662c", func := "suzerain/suzerainlaw.StakeJudges", spec := "stakeJudges", inPlace := ["internal/reflectlite.ValueOf", "internal/reflectlite.Swapper", "(internal/reflectlite.Value).Len"], unfollowed := true, recurses := true, named := ["math/bits.divideError", "math/bits.overflowError"], apart := false, narrowed := true }
def StakeJudgesUptoSaid : Prop := stakeJudgesUptoRow.holds Try.pinned (OpenSpec.upto stakeJudgesSpec)

/-- 'suzerainlaw.StakeSets', WHERE WHAT IT READS IS OF BULK AT MOST 1048576: true; the input reads as it did. -/
def stakeSetsUptoRow : OpenClaim := { program := "ytbpehnghffljiaa", sum := "5437bd300394656af8b39c85abb32aba404bf3d37a287e157554afc5f9b2662c", func := "suzerain/suzerainlaw.StakeSets", spec := "stakeSets", inPlace := ["internal/reflectlite.ValueOf", "internal/reflectlite.Swapper", "(internal/reflectlite.Value).Len"], unfollowed := true, recurses := true, named := ["math/bits.divideError", "math/bits.overflowError"], apart := false, narrowed := true }
def StakeSetsUptoSaid : Prop := stakeSetsUptoRow.holds Try.pinned (OpenSpec.upto stakeSetsSpec)

/-- 'suzerainkeep.StakeDiffs', WHERE WHAT IT READS IS OF BULK AT MOST 1048576: true; the input reads as it did. -/
def stakeDiffsUptoRow : OpenClaim := { program := "ytbpehnghffljiaa", sum := "5437bd300394656af8b39c85abb32aba404bf3d37a287e157554afc5f9b2662c", func := "suzerain/suzerainkeep.StakeDiffs", spec := "stakeDiffs", inPlace := ["internal/reflectlite.ValueOf", "internal/reflectlite.Swapper", "(internal/reflectlite.Value).Len"], unfollowed := true, recurses := true, named := ["math/bits.divideError", "math/bits.overflowError"], apart := false, narrowed := true }
def StakeDiffsUptoSaid : Prop := stakeDiffsUptoRow.holds Try.pinned (OpenSpec.upto stakeDiffsSpec)

/-- 'suzerainlaw.StakeUndelegates', WHERE WHAT IT READS IS OF BULK AT MOST 1048576: true; the input reads as it did. -/
def stakeUndelegatesUptoRow : OpenClaim := { program := "ytbpehnghffljiaa", sum := "5437bd300394656af8b39c85abb32aba404bf3d37a287e157554afc5f9b2662c", func := "suzerain/suzerainlaw.StakeUndelegates", spec := "stakeUndelegates", inPlace := ["internal/reflectlite.ValueOf", "internal/reflectlite.Swapper", "(internal/reflectlite.Value).Len"], unfollowed := true, recurses := true, named := ["math/bits.divideError", "math/bits.overflowError"], apart := false, narrowed := true }
def StakeUndelegatesUptoSaid : Prop := stakeUndelegatesUptoRow.holds Try.pinned (OpenSpec.upto stakeUndelegatesSpec)

/-- 'suzerainkeep.StakeRound', WHERE WHAT IT READS IS OF BULK AT MOST 1048576: true; the input reads as it did. -/
def stakeRoundUptoRow : OpenClaim := { program := "ytbpehnghffljiaa", sum := "5437bd300394656af8b39c85abb32aba404bf3d37a287e157554afc5f9b2662c", func := "suzerain/suzerainkeep.StakeRound", spec := "stakeRound", inPlace := ["internal/reflectlite.ValueOf", "internal/reflectlite.Swapper", "(internal/reflectlite.Value).Len"], unfollowed := true, recurses := true, named := ["math/bits.divideError", "math/bits.overflowError"], apart := false, narrowed := true }
def StakeRoundUptoSaid : Prop := stakeRoundUptoRow.holds Try.pinned (OpenSpec.upto stakeRoundSpec)

/-- 'suzerainlaw.StakePays', WHERE WHAT IT READS IS OF BULK AT MOST 1048576: true; the input reads as it did. -/
def stakePaysUptoRow : OpenClaim := { program := "ytbpehnghffljiaa", sum := "5437bd300394656af8b39c85abb32aba404bf3d37a287e157554afc5f9b2662c", func := "suzerain/suzerainlaw.StakePays", spec := "stakePays", inPlace := ["internal/reflectlite.ValueOf", "internal/reflectlite.Swapper", "(internal/reflectlite.Value).Len"], unfollowed := true, recurses := true, named := ["math/bits.divideError", "math/bits.overflowError"], apart := false, narrowed := true }
def StakePaysUptoSaid : Prop := stakePaysUptoRow.holds Try.pinned (OpenSpec.upto stakePaysSpec)

/-- 'suzerainlaw.StakeSlashes', WHERE WHAT IT READS IS OF BULK AT MOST 1048576: true; the input reads as it did. -/
def stakeSlashesUptoRow : OpenClaim := { program := "ytbpehnghffljiaa", sum := "5437bd300394656af8b39c85abb32aba404bf3d37a287e157554afc5f9b2662c", func := "suzerain/suzerainlaw.StakeSlashes", spec := "stakeSlashes", inPlace := ["internal/reflectlite.ValueOf", "internal/reflectlite.Swapper", "(internal/reflectlite.Value).Len"], unfollowed := true, recurses := true, named := ["math/bits.divideError", "math/bits.overflowError"], apart := false, narrowed := true }
def StakeSlashesUptoSaid : Prop := stakeSlashesUptoRow.holds Try.pinned (OpenSpec.upto stakeSlashesSpec)

/-- 'suzerainkeep.StakeSlashed', WHERE WHAT IT READS IS OF BULK AT MOST 1048576: true; the input reads as it did. -/
def stakeSlashedUptoRow : OpenClaim := { program := "ytbpehnghffljiaa", sum := "5437bd300394656af8b39c85abb32aba404bf3d37a287e157554afc5f9b2662c", func := "suzerain/suzerainkeep.StakeSlashed", spec := "stakeSlashed", inPlace := ["internal/reflectlite.ValueOf", "internal/reflectlite.Swapper", "(internal/reflectlite.Value).Len"], unfollowed := true, recurses := true, named := ["math/bits.divideError", "math/bits.overflowError"], apart := false, narrowed := true }
def StakeSlashedUptoSaid : Prop := stakeSlashedUptoRow.holds Try.pinned (OpenSpec.upto stakeSlashedSpec)

/-- 'suzerainkeep.StakeGood', WHERE WHAT IT READS IS OF BULK AT MOST 1048576: true; the input reads as it did. -/
def stakeGoodUptoRow : OpenClaim := { program := "ytbpehnghffljiaa", sum := "5437bd300394656af8b39c85abb32aba404bf3d37a287e157554afc5f9b2662c", func := "suzerain/suzerainkeep.StakeGood", spec := "stakeGood", inPlace := ["internal/reflectlite.ValueOf", "internal/reflectlite.Swapper", "(internal/reflectlite.Value).Len"], unfollowed := true, recurses := true, named := ["math/bits.divideError", "math/bits.overflowError"], apart := false, narrowed := true }
def StakeGoodUptoSaid : Prop := stakeGoodUptoRow.holds Try.pinned (OpenSpec.upto stakeGoodSpec)

end Rows
end Go.Proofs.Ytbpehnghffljiaa
