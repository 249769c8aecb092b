/-
  No cell of these rows narrows 'for every input' (looked for: loops, veiled, ifaces, maps, wideKeys, modest, calm, conditions, laid).
  DERIVED. THE GIVEN ROWS OF THIS SEAT. 8 by the template 'for every input the law returns true; each argument reads behind the call as it read before'; 0 by the template 'total and deterministic' (their statements: YtknbejjfejdppaaGreatTotals.lean).
  GIVEN WITH THE SEED: the statements are not yours to turn. If you find one false, say at which input.
  Laid BY PROGRAM, IN A SANDBOX (cutbox-rows.mjs): the forced cells as the released guide's own fill.sh prints them over the translation ef5b82a8448d8476… (all of the seat's roots in one cut). By AI agents, Wed Nov 11 2026. No macro, syntax, notation, axiom, sorry.
-/
import Derived.Test.YtknbejjfejdppaaGreatChecked
import GoSem.Claim
import GoSem.ClaimJoined
import GoSem.ClaimMapViews
import Derived.JoinedTies
import Derived.KernelRfl
namespace Go.Proofs.YtknbejjfejdppaaGreat
/- THE CELL 'sum', in the pinned program and in every row, IS THE sha256 OF THE DUMP (.gsa) THAT YtknbejjfejdppaaGreatProg.lean LOADS. Nothing in Lean hashes anything: it is a label: what it is worth is what the hold of that sum in a sandbox is worth. -/
noncomputable def Tryz.pinned : Pinned := { name := "ytknbejjfejdppaagreat", sum := "ef5b82a8448d84762e6f9fd96abc6ce708b5ecaf71b337854075a8188933a526", checked := Tryz.checked }
namespace Rows
def none {H : Type} : Left H := { results := [], args := [] }

/-- 'suzerainlaw.ProviderEnds': WHATEVER THE INPUT: true; the input reads as it did. -/
def providerEndsSpec : ChangeSpec := { name := "providerEnds", fn := fun _ => fun
  | [d1, d2] => { results := [.lit (.bool true)], args := [d1, d2] }
  | _ => none }
def providerEndsRow : OpenClaim := { program := "ytknbejjfejdppaagreat", sum := "ef5b82a8448d84762e6f9fd96abc6ce708b5ecaf71b337854075a8188933a526", func := "suzerain/suzerainlaw.ProviderEnds", spec := "providerEnds", inPlace := ["slices.overlaps[int]", "internal/reflectlite.ValueOf", "internal/reflectlite.Swapper", "(internal/reflectlite.Value).Len"], unfollowed := true, recurses := true, named := ["math/bits.divideError", "math/bits.overflowError"], apart := false }
def ProviderEndsSaid : Prop := providerEndsRow.holds Tryz.pinned (OpenSpec.ofChange providerEndsSpec)

/-- ITS FALSE NEIGHBOUR: 'it returns false'. Refute it at one input. -/
def providerEndsWrong : ChangeSpec := { name := "providerEnds", fn := fun _ => fun
  | [d1, d2] => { results := [.lit (.bool false)], args := [d1, d2] }
  | _ => none }
def ProviderEndsWrongFalsely : Prop := providerEndsRow.holds Tryz.pinned (OpenSpec.ofChange providerEndsWrong)

/-- 'suzerainlaw.ProviderJudges': WHATEVER THE INPUT: true; the input reads as it did. -/
def providerJudgesSpec : ChangeSpec := { name := "providerJudges", fn := fun _ => fun
  | [d1, d2, d3] => { results := [.lit (.bool true)], args := [d1, d2, d3] }
  | _ => none }
def providerJudgesRow : OpenClaim := { program := "ytknbejjfejdppaagreat", sum := "ef5b82a8448d84762e6f9fd96abc6ce708b5ecaf71b337854075a8188933a526", func := "suzerain/suzerainlaw.ProviderJudges", spec := "providerJudges", inPlace := ["slices.overlaps[int]", "internal/reflectlite.ValueOf", "internal/reflectlite.Swapper", "(internal/reflectlite.Value).Len"], unfollowed := true, recurses := true, named := ["math/bits.divideError", "math/bits.overflowError"], apart := false }
def ProviderJudgesSaid : Prop := providerJudgesRow.holds Tryz.pinned (OpenSpec.ofChange providerJudgesSpec)

/-- ITS FALSE NEIGHBOUR: 'it returns false'. Refute it at one input. -/
def providerJudgesWrong : ChangeSpec := { name := "providerJudges", fn := fun _ => fun
  | [d1, d2, d3] => { results := [.lit (.bool false)], args := [d1, d2, d3] }
  | _ => none }
def ProviderJudgesWrongFalsely : Prop := providerJudgesRow.holds Tryz.pinned (OpenSpec.ofChange providerJudgesWrong)

/-- 'suzerainlaw.ProviderHears': WHATEVER THE INPUT: true; the input reads as it did. -/
def providerHearsSpec : ChangeSpec := { name := "providerHears", fn := fun _ => fun
  | [d1, d2, d3] => { results := [.lit (.bool true)], args := [d1, d2, d3] }
  | _ => none }
def providerHearsRow : OpenClaim := { program := "ytknbejjfejdppaagreat", sum := "ef5b82a8448d84762e6f9fd96abc6ce708b5ecaf71b337854075a8188933a526", func := "suzerain/suzerainlaw.ProviderHears", spec := "providerHears", inPlace := ["slices.overlaps[int]", "internal/reflectlite.ValueOf", "internal/reflectlite.Swapper", "(internal/reflectlite.Value).Len"], unfollowed := true, recurses := true, named := ["math/bits.divideError", "math/bits.overflowError"], apart := false }
def ProviderHearsSaid : Prop := providerHearsRow.holds Tryz.pinned (OpenSpec.ofChange providerHearsSpec)

/-- ITS FALSE NEIGHBOUR: 'it returns false'. Refute it at one input. -/
def providerHearsWrong : ChangeSpec := { name := "providerHears", fn := fun _ => fun
  | [d1, d2, d3] => { results := [.lit (.bool false)], args := [d1, d2, d3] }
  | _ => none }
def ProviderHearsWrongFalsely : Prop := providerHearsRow.holds Tryz.pinned (OpenSpec.ofChange providerHearsWrong)

/-- 'suzerainkeep.ProviderKeeps': WHATEVER THE INPUT: true; the input reads as it did. -/
def providerKeepsSpec : ChangeSpec := { name := "providerKeeps", fn := fun _ => fun
  | [d1, d2] => { results := [.lit (.bool true)], args := [d1, d2] }
  | _ => none }
def providerKeepsRow : OpenClaim := { program := "ytknbejjfejdppaagreat", sum := "ef5b82a8448d84762e6f9fd96abc6ce708b5ecaf71b337854075a8188933a526", func := "suzerain/suzerainkeep.ProviderKeeps", spec := "providerKeeps", inPlace := ["slices.overlaps[int]", "internal/reflectlite.ValueOf", "internal/reflectlite.Swapper", "(internal/reflectlite.Value).Len"], unfollowed := true, recurses := true, named := ["math/bits.divideError", "math/bits.overflowError"], apart := false }
def ProviderKeepsSaid : Prop := providerKeepsRow.holds Tryz.pinned (OpenSpec.ofChange providerKeepsSpec)

/-- ITS FALSE NEIGHBOUR: 'it returns false'. Refute it at one input. -/
def providerKeepsWrong : ChangeSpec := { name := "providerKeeps", fn := fun _ => fun
  | [d1, d2] => { results := [.lit (.bool false)], args := [d1, d2] }
  | _ => none }
def ProviderKeepsWrongFalsely : Prop := providerKeepsRow.holds Tryz.pinned (OpenSpec.ofChange providerKeepsWrong)

/-- 'suzerainkeep.ProviderOnce': WHATEVER THE INPUT: true; the input reads as it did. -/
def providerOnceSpec : ChangeSpec := { name := "providerOnce", fn := fun _ => fun
  | [d1, d2, d3, d4] => { results := [.lit (.bool true)], args := [d1, d2, d3, d4] }
  | _ => none }
def providerOnceRow : OpenClaim := { program := "ytknbejjfejdppaagreat", sum := "ef5b82a8448d84762e6f9fd96abc6ce708b5ecaf71b337854075a8188933a526", func := "suzerain/suzerainkeep.ProviderOnce", spec := "providerOnce", inPlace := ["slices.overlaps[int]", "internal/reflectlite.ValueOf", "internal/reflectlite.Swapper", "(internal/reflectlite.Value).Len"], unfollowed := true, recurses := true, named := ["math/bits.divideError", "math/bits.overflowError"], apart := false }
def ProviderOnceSaid : Prop := providerOnceRow.holds Tryz.pinned (OpenSpec.ofChange providerOnceSpec)

/-- ITS FALSE NEIGHBOUR: 'it returns false'. Refute it at one input. -/
def providerOnceWrong : ChangeSpec := { name := "providerOnce", fn := fun _ => fun
  | [d1, d2, d3, d4] => { results := [.lit (.bool false)], args := [d1, d2, d3, d4] }
  | _ => none }
def ProviderOnceWrongFalsely : Prop := providerOnceRow.holds Tryz.pinned (OpenSpec.ofChange providerOnceWrong)

/-- 'suzerainlaw.ProviderLinks': WHATEVER THE INPUT: true; the input reads as it did. -/
def providerLinksSpec : ChangeSpec := { name := "providerLinks", fn := fun _ => fun
  | [d1, d2] => { results := [.lit (.bool true)], args := [d1, d2] }
  | _ => none }
def providerLinksRow : OpenClaim := { program := "ytknbejjfejdppaagreat", sum := "ef5b82a8448d84762e6f9fd96abc6ce708b5ecaf71b337854075a8188933a526", func := "suzerain/suzerainlaw.ProviderLinks", spec := "providerLinks", inPlace := ["slices.overlaps[int]", "internal/reflectlite.ValueOf", "internal/reflectlite.Swapper", "(internal/reflectlite.Value).Len"], unfollowed := true, recurses := true, named := ["math/bits.divideError", "math/bits.overflowError"], apart := false }
def ProviderLinksSaid : Prop := providerLinksRow.holds Tryz.pinned (OpenSpec.ofChange providerLinksSpec)

/-- ITS FALSE NEIGHBOUR: 'it returns false'. Refute it at one input. -/
def providerLinksWrong : ChangeSpec := { name := "providerLinks", fn := fun _ => fun
  | [d1, d2] => { results := [.lit (.bool false)], args := [d1, d2] }
  | _ => none }
def ProviderLinksWrongFalsely : Prop := providerLinksRow.holds Tryz.pinned (OpenSpec.ofChange providerLinksWrong)

/-- 'suzerainlaw.ProviderStakes': WHATEVER THE INPUT: true; the input reads as it did. -/
def providerStakesSpec : ChangeSpec := { name := "providerStakes", fn := fun _ => fun
  | [d1, d2, d3, d4, d5] => { results := [.lit (.bool true)], args := [d1, d2, d3, d4, d5] }
  | _ => none }
def providerStakesRow : OpenClaim := { program := "ytknbejjfejdppaagreat", sum := "ef5b82a8448d84762e6f9fd96abc6ce708b5ecaf71b337854075a8188933a526", func := "suzerain/suzerainlaw.ProviderStakes", spec := "providerStakes", inPlace := ["slices.overlaps[int]", "internal/reflectlite.ValueOf", "internal/reflectlite.Swapper", "(internal/reflectlite.Value).Len"], unfollowed := true, recurses := true, named := ["math/bits.divideError", "math/bits.overflowError"], apart := false }
def ProviderStakesSaid : Prop := providerStakesRow.holds Tryz.pinned (OpenSpec.ofChange providerStakesSpec)

/-- ITS FALSE NEIGHBOUR: 'it returns false'. Refute it at one input. -/
def providerStakesWrong : ChangeSpec := { name := "providerStakes", fn := fun _ => fun
  | [d1, d2, d3, d4, d5] => { results := [.lit (.bool false)], args := [d1, d2, d3, d4, d5] }
  | _ => none }
def ProviderStakesWrongFalsely : Prop := providerStakesRow.holds Tryz.pinned (OpenSpec.ofChange providerStakesWrong)

/-- 'suzerainkeep.ProviderRemoves': WHATEVER THE INPUT: true; the input reads as it did. -/
def providerRemovesSpec : ChangeSpec := { name := "providerRemoves", fn := fun _ => fun
  | [d1, d2] => { results := [.lit (.bool true)], args := [d1, d2] }
  | _ => none }
def providerRemovesRow : OpenClaim := { program := "ytknbejjfejdppaagreat", sum := "ef5b82a8448d84762e6f9fd96abc6ce708b5ecaf71b337854075a8188933a526", func := "suzerain/suzerainkeep.ProviderRemoves", spec := "providerRemoves", inPlace := ["slices.overlaps[int]", "internal/reflectlite.ValueOf", "internal/reflectlite.Swapper", "(internal/reflectlite.Value).Len"], unfollowed := true, recurses := true, named := ["math/bits.divideError", "math/bits.overflowError"], apart := false }
def ProviderRemovesSaid : Prop := providerRemovesRow.holds Tryz.pinned (OpenSpec.ofChange providerRemovesSpec)

/-- ITS FALSE NEIGHBOUR: 'it returns false'. Refute it at one input. -/
def providerRemovesWrong : ChangeSpec := { name := "providerRemoves", fn := fun _ => fun
  | [d1, d2] => { results := [.lit (.bool false)], args := [d1, d2] }
  | _ => none }
def ProviderRemovesWrongFalsely : Prop := providerRemovesRow.holds Tryz.pinned (OpenSpec.ofChange providerRemovesWrong)

/- THE SECOND FORM. 'bulk': how many values and letters a reading holds, each counted each time it is reached (what is shared counts as often as it is met; a slice's spare places count too). A statement '..UptoSaid' is the law's where the arguments, and the package variables that the reading takes, are together of bulk at most 1048576: NARROWER than '..Said'. Prove '..Said' where nothing that the law and all that it calls make is longer than what came in: it says more and counts as full. Else prove '..UptoSaid'. A law counts once. -/
mutual
def uptoBulk {H : Type} : DataW H → Nat
  | .lit (.string bytes) => bytes.length + 1
  | .lit _ => 1
  | .nil => 1
  | .ptr d => uptoBulk d + 1
  | .slice elems spare => uptoBulkAll elems + uptoBulkAll spare + 1
  | .agg parts => uptoBulkAll parts + 1
  | .iface _ d => uptoBulk d + 1
  | .map entries => uptoBulkEntries entries + 1
  | .held _ => 1
def uptoBulkAll {H : Type} : List (DataW H) → Nat
  | [] => 0
  | d :: r => uptoBulk d + uptoBulkAll r
def uptoBulkEntries {H : Type} : List (Lit × DataW H) → Nat
  | [] => 0
  | x :: r => uptoBulkEntry x + uptoBulkEntries r
def uptoBulkEntry {H : Type} : Lit × DataW H → Nat
  | (.string bytes, d) => bytes.length + uptoBulk d + 1
  | (_, d) => uptoBulk d + 1
 end
def uptoSmall : (H : Type) → List (DataW H) → Bool := fun _ ds => decide (uptoBulkAll ds ≤ 1048576)
def OpenSpec.upto (s : _root_.Go.ChangeSpec) : _root_.Go.OpenSpec := { _root_.Go.OpenSpec.ofChange s with cond := some uptoSmall }

/-- 'suzerainlaw.ProviderEnds', WHERE WHAT IT READS IS OF BULK AT MOST 1048576: true; the input reads as it did. -/
def providerEndsUptoRow : OpenClaim := { program := "ytknbejjfejdppaagreat", sum := "ef5b82a8448d84762e6f9fd96abc6ce708b5ecaf71b337854075a8188933a526", func := "suzerain/suzerainlaw.ProviderEnds", spec := "providerEnds", inPlace := ["slices.overlaps[int]", "internal/reflectlite.ValueOf", "internal/reflectlite.Swapper", "(internal/reflectlite.Value).Len"], unfollowed := true, recurses := true, named := ["math/bits.divideError", "math/bits.overflowError"], apart := false, narrowed := true }
def ProviderEndsUptoSaid : Prop := providerEndsUptoRow.holds Tryz.pinned (OpenSpec.upto providerEndsSpec)

/-- 'suzerainlaw.ProviderJudges', WHERE WHAT IT READS IS OF BULK AT MOST 1048576: true; the input reads as it did. -/
def providerJudgesUptoRow : OpenClaim := { program := "ytknbejjfejdppaagreat", sum := "ef5b82a8448d84762e6f9fd96abc6ce708b5ecaf71b337854075a8188933a526", func := "suzerain/suzerainlaw.ProviderJudges", spec := "providerJudges", inPlace := ["slices.overlaps[int]", "internal/reflectlite.ValueOf", "internal/reflectlite.Swapper", "(internal/reflectlite.Value).Len"], unfollowed := true, recurses := true, named := ["math/bits.divideError", "math/bits.overflowError"], apart := false, narrowed := true }
def ProviderJudgesUptoSaid : Prop := providerJudgesUptoRow.holds Tryz.pinned (OpenSpec.upto providerJudgesSpec)

/-- 'suzerainlaw.ProviderHears', WHERE WHAT IT READS IS OF BULK AT MOST 1048576: true; the input reads as it did. -/
def providerHearsUptoRow : OpenClaim := { program := "ytknbejjfejdppaagreat", sum := "ef5b82a8448d84762e6f9fd96abc6ce708b5ecaf71b337854075a8188933a526", func := "suzerain/suzerainlaw.ProviderHears", spec := "providerHears", inPlace := ["slices.overlaps[int]", "internal/reflectlite.ValueOf", "internal/reflectlite.Swapper", "(internal/reflectlite.Value).Len"], unfollowed := true, recurses := true, named := ["math/bits.divideError", "math/bits.overflowError"], apart := false, narrowed := true }
def ProviderHearsUptoSaid : Prop := providerHearsUptoRow.holds Tryz.pinned (OpenSpec.upto providerHearsSpec)

/-- 'suzerainkeep.ProviderKeeps', WHERE WHAT IT READS IS OF BULK AT MOST 1048576: true; the input reads as it did. -/
def providerKeepsUptoRow : OpenClaim := { program := "ytknbejjfejdppaagreat", sum := "ef5b82a8448d84762e6f9fd96abc6ce708b5ecaf71b337854075a8188933a526", func := "suzerain/suzerainkeep.ProviderKeeps", spec := "providerKeeps", inPlace := ["slices.overlaps[int]", "internal/reflectlite.ValueOf", "internal/reflectlite.Swapper", "(internal/reflectlite.Value).Len"], unfollowed := true, recurses := true, named := ["math/bits.divideError", "math/bits.overflowError"], apart := false, narrowed := true }
def ProviderKeepsUptoSaid : Prop := providerKeepsUptoRow.holds Tryz.pinned (OpenSpec.upto providerKeepsSpec)

/-- 'suzerainkeep.ProviderOnce', WHERE WHAT IT READS IS OF BULK AT MOST 1048576: true; the input reads as it did. -/
def providerOnceUptoRow : OpenClaim := { program := "ytknbejjfejdppaagreat", sum := "ef5b82a8448d84762e6f9fd96abc6ce708b5ecaf71b337854075a8188933a526", func := "suzerain/suzerainkeep.ProviderOnce", spec := "providerOnce", inPlace := ["slices.overlaps[int]", "internal/reflectlite.ValueOf", "internal/reflectlite.Swapper", "(internal/reflectlite.Value).Len"], unfollowed := true, recurses := true, named := ["math/bits.divideError", "math/bits.overflowError"], apart := false, narrowed := true }
def ProviderOnceUptoSaid : Prop := providerOnceUptoRow.holds Tryz.pinned (OpenSpec.upto providerOnceSpec)

/-- 'suzerainlaw.ProviderLinks', WHERE WHAT IT READS IS OF BULK AT MOST 1048576: true; the input reads as it did. -/
def providerLinksUptoRow : OpenClaim := { program := "ytknbejjfejdppaagreat", sum := "ef5b82a8448d84762e6f9fd96abc6ce708b5ecaf71b337854075a8188933a526", func := "suzerain/suzerainlaw.ProviderLinks", spec := "providerLinks", inPlace := ["slices.overlaps[int]", "internal/reflectlite.ValueOf", "internal/reflectlite.Swapper", "(internal/reflectlite.Value).Len"], unfollowed := true, recurses := true, named := ["math/bits.divideError", "math/bits.overflowError"], apart := false, narrowed := true }
def ProviderLinksUptoSaid : Prop := providerLinksUptoRow.holds Tryz.pinned (OpenSpec.upto providerLinksSpec)

/-- 'suzerainlaw.ProviderStakes', WHERE WHAT IT READS IS OF BULK AT MOST 1048576: true; the input reads as it did. -/
def providerStakesUptoRow : OpenClaim := { program := "ytknbejjfejdppaagreat", sum := "ef5b82a8448d84762e6f9fd96abc6ce708b5ecaf71b337854075a8188933a526", func := "suzerain/suzerainlaw.ProviderStakes", spec := "providerStakes", inPlace := ["slices.overlaps[int]", "internal/reflectlite.ValueOf", "internal/reflectlite.Swapper", "(internal/reflectlite.Value).Len"], unfollowed := true, recurses := true, named := ["math/bits.divideError", "math/bits.overflowError"], apart := false, narrowed := true }
def ProviderStakesUptoSaid : Prop := providerStakesUptoRow.holds Tryz.pinned (OpenSpec.upto providerStakesSpec)

/-- 'suzerainkeep.ProviderRemoves', WHERE WHAT IT READS IS OF BULK AT MOST 1048576: true; the input reads as it did. -/
def providerRemovesUptoRow : OpenClaim := { program := "ytknbejjfejdppaagreat", sum := "ef5b82a8448d84762e6f9fd96abc6ce708b5ecaf71b337854075a8188933a526", func := "suzerain/suzerainkeep.ProviderRemoves", spec := "providerRemoves", inPlace := ["slices.overlaps[int]", "internal/reflectlite.ValueOf", "internal/reflectlite.Swapper", "(internal/reflectlite.Value).Len"], unfollowed := true, recurses := true, named := ["math/bits.divideError", "math/bits.overflowError"], apart := false, narrowed := true }
def ProviderRemovesUptoSaid : Prop := providerRemovesUptoRow.holds Tryz.pinned (OpenSpec.upto providerRemovesSpec)

end Rows
end Go.Proofs.YtknbejjfejdppaaGreat
