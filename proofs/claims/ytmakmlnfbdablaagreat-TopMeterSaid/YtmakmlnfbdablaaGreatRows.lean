/-
  No cell of these rows narrows 'for every input' (looked for: loops, veiled, ifaces, maps, wideKeys, modest, calm, conditions, laid).
  DERIVED. THE GIVEN ROWS OF THIS SEAT. 12 by the template 'for every input the law returns true; each argument reads behind the call as it read before'; 0 by the template 'total and deterministic' (their statements: YtmakmlnfbdablaaGreatTotals.lean).
  GIVEN WITH THE SEED: the statements are not yours to turn. If you find one false, say at which input.
  Laid BY PROGRAM, IN A SANDBOX (cutbox-rows.mjs): the forced cells as the released guide's own fill.sh prints them over the translation fdb1fc89b927e49f… (all of the seat's roots in one cut). By AI agents, Wed Nov 11 2026. No macro, syntax, notation, axiom, sorry.
-/
import Derived.Test.YtmakmlnfbdablaaGreatChecked
import GoSem.Claim
import GoSem.ClaimJoined
import GoSem.ClaimMapViews
import Derived.JoinedTies
import Derived.KernelRfl
namespace Go.Proofs.YtmakmlnfbdablaaGreat
/- THE CELL 'sum', in the pinned program and in every row, IS THE sha256 OF THE DUMP (.gsa) THAT YtmakmlnfbdablaaGreatProg.lean LOADS. Nothing in Lean hashes anything: it is a label: what it is worth is what the hold of that sum in a sandbox is worth. -/
noncomputable def Tryz.pinned : Pinned := { name := "ytmakmlnfbdablaagreat", sum := "fdb1fc89b927e49ffbccbb2410c32da9db1663dc6818d5f50475abd3e4568b45", checked := Tryz.checked }
namespace Rows
def none {H : Type} : Left H := { results := [], args := [] }

/-- 'suzeraintop.TopRuns': WHATEVER THE INPUT: true; the input reads as it did. -/
def topRunsSpec : ChangeSpec := { name := "topRuns", fn := fun _ => fun
  | [d1, d2] => { results := [.lit (.bool true)], args := [d1, d2] }
  | _ => none }
def topRunsRow : OpenClaim := { program := "ytmakmlnfbdablaagreat", sum := "fdb1fc89b927e49ffbccbb2410c32da9db1663dc6818d5f50475abd3e4568b45", func := "suzerain/suzeraintop.TopRuns", spec := "topRuns", inPlace := ["slices.overlaps[int]", "internal/reflectlite.ValueOf", "internal/reflectlite.Swapper", "(internal/reflectlite.Value).Len"], unfollowed := true, recurses := true, named := ["math/bits.divideError", "math/bits.overflowError"], apart := false }
def TopRunsSaid : Prop := topRunsRow.holds Tryz.pinned (OpenSpec.ofChange topRunsSpec)

/-- ITS FALSE NEIGHBOUR: 'it returns false'. Refute it at one input. -/
def topRunsWrong : ChangeSpec := { name := "topRuns", fn := fun _ => fun
  | [d1, d2] => { results := [.lit (.bool false)], args := [d1, d2] }
  | _ => none }
def TopRunsWrongFalsely : Prop := topRunsRow.holds Tryz.pinned (OpenSpec.ofChange topRunsWrong)

/-- 'suzeraintop.TopTokens': WHATEVER THE INPUT: true; the input reads as it did. -/
def topTokensSpec : ChangeSpec := { name := "topTokens", fn := fun _ => fun
  | [d] => { results := [.lit (.bool true)], args := [d] }
  | _ => none }
def topTokensRow : OpenClaim := { program := "ytmakmlnfbdablaagreat", sum := "fdb1fc89b927e49ffbccbb2410c32da9db1663dc6818d5f50475abd3e4568b45", func := "suzerain/suzeraintop.TopTokens", spec := "topTokens", inPlace := ["slices.overlaps[int]", "internal/reflectlite.ValueOf", "internal/reflectlite.Swapper", "(internal/reflectlite.Value).Len"], unfollowed := true, recurses := true, named := ["math/bits.divideError", "math/bits.overflowError"], apart := false }
def TopTokensSaid : Prop := topTokensRow.holds Tryz.pinned (OpenSpec.ofChange topTokensSpec)

/-- ITS FALSE NEIGHBOUR: 'it returns false'. Refute it at one input. -/
def topTokensWrong : ChangeSpec := { name := "topTokens", fn := fun _ => fun
  | [d] => { results := [.lit (.bool false)], args := [d] }
  | _ => none }
def TopTokensWrongFalsely : Prop := topTokensRow.holds Tryz.pinned (OpenSpec.ofChange topTokensWrong)

/-- 'suzeraintop.TopGood': WHATEVER THE INPUT: true; the input reads as it did. -/
def topGoodSpec : ChangeSpec := { name := "topGood", fn := fun _ => fun
  | [d] => { results := [.lit (.bool true)], args := [d] }
  | _ => none }
def topGoodRow : OpenClaim := { program := "ytmakmlnfbdablaagreat", sum := "fdb1fc89b927e49ffbccbb2410c32da9db1663dc6818d5f50475abd3e4568b45", func := "suzerain/suzeraintop.TopGood", spec := "topGood", inPlace := ["slices.overlaps[int]", "internal/reflectlite.ValueOf", "internal/reflectlite.Swapper", "(internal/reflectlite.Value).Len"], unfollowed := true, recurses := true, named := ["math/bits.divideError", "math/bits.overflowError"], apart := false }
def TopGoodSaid : Prop := topGoodRow.holds Tryz.pinned (OpenSpec.ofChange topGoodSpec)

/-- ITS FALSE NEIGHBOUR: 'it returns false'. Refute it at one input. -/
def topGoodWrong : ChangeSpec := { name := "topGood", fn := fun _ => fun
  | [d] => { results := [.lit (.bool false)], args := [d] }
  | _ => none }
def TopGoodWrongFalsely : Prop := topGoodRow.holds Tryz.pinned (OpenSpec.ofChange topGoodWrong)

/-- 'suzeraintop.TopOrder': WHATEVER THE INPUT: true; the input reads as it did. -/
def topOrderSpec : ChangeSpec := { name := "topOrder", fn := fun _ => fun
  | [d] => { results := [.lit (.bool true)], args := [d] }
  | _ => none }
def topOrderRow : OpenClaim := { program := "ytmakmlnfbdablaagreat", sum := "fdb1fc89b927e49ffbccbb2410c32da9db1663dc6818d5f50475abd3e4568b45", func := "suzerain/suzeraintop.TopOrder", spec := "topOrder", inPlace := ["slices.overlaps[int]", "internal/reflectlite.ValueOf", "internal/reflectlite.Swapper", "(internal/reflectlite.Value).Len"], unfollowed := true, recurses := true, named := ["math/bits.divideError", "math/bits.overflowError"], apart := false }
def TopOrderSaid : Prop := topOrderRow.holds Tryz.pinned (OpenSpec.ofChange topOrderSpec)

/-- ITS FALSE NEIGHBOUR: 'it returns false'. Refute it at one input. -/
def topOrderWrong : ChangeSpec := { name := "topOrder", fn := fun _ => fun
  | [d] => { results := [.lit (.bool false)], args := [d] }
  | _ => none }
def TopOrderWrongFalsely : Prop := topOrderRow.holds Tryz.pinned (OpenSpec.ofChange topOrderWrong)

/-- 'suzeraintop.TopForged': WHATEVER THE INPUT: true; the input reads as it did. -/
def topForgedSpec : ChangeSpec := { name := "topForged", fn := fun _ => fun
  | [d1, d2, d3] => { results := [.lit (.bool true)], args := [d1, d2, d3] }
  | _ => none }
def topForgedRow : OpenClaim := { program := "ytmakmlnfbdablaagreat", sum := "fdb1fc89b927e49ffbccbb2410c32da9db1663dc6818d5f50475abd3e4568b45", func := "suzerain/suzeraintop.TopForged", spec := "topForged", inPlace := ["slices.overlaps[int]", "internal/reflectlite.ValueOf", "internal/reflectlite.Swapper", "(internal/reflectlite.Value).Len"], unfollowed := true, recurses := true, named := ["math/bits.divideError", "math/bits.overflowError"], apart := false }
def TopForgedSaid : Prop := topForgedRow.holds Tryz.pinned (OpenSpec.ofChange topForgedSpec)

/-- ITS FALSE NEIGHBOUR: 'it returns false'. Refute it at one input. -/
def topForgedWrong : ChangeSpec := { name := "topForged", fn := fun _ => fun
  | [d1, d2, d3] => { results := [.lit (.bool false)], args := [d1, d2, d3] }
  | _ => none }
def TopForgedWrongFalsely : Prop := topForgedRow.holds Tryz.pinned (OpenSpec.ofChange topForgedWrong)

/-- 'suzeraintop.TopDead': WHATEVER THE INPUT: true; the input reads as it did. -/
def topDeadSpec : ChangeSpec := { name := "topDead", fn := fun _ => fun
  | [d] => { results := [.lit (.bool true)], args := [d] }
  | _ => none }
def topDeadRow : OpenClaim := { program := "ytmakmlnfbdablaagreat", sum := "fdb1fc89b927e49ffbccbb2410c32da9db1663dc6818d5f50475abd3e4568b45", func := "suzerain/suzeraintop.TopDead", spec := "topDead", inPlace := ["slices.overlaps[int]", "internal/reflectlite.ValueOf", "internal/reflectlite.Swapper", "(internal/reflectlite.Value).Len"], unfollowed := true, recurses := true, named := ["math/bits.divideError", "math/bits.overflowError"], apart := false }
def TopDeadSaid : Prop := topDeadRow.holds Tryz.pinned (OpenSpec.ofChange topDeadSpec)

/-- ITS FALSE NEIGHBOUR: 'it returns false'. Refute it at one input. -/
def topDeadWrong : ChangeSpec := { name := "topDead", fn := fun _ => fun
  | [d] => { results := [.lit (.bool false)], args := [d] }
  | _ => none }
def TopDeadWrongFalsely : Prop := topDeadRow.holds Tryz.pinned (OpenSpec.ofChange topDeadWrong)

/-- 'suzeraintop.TopMeter': WHATEVER THE INPUT: true; the input reads as it did. -/
def topMeterSpec : ChangeSpec := { name := "topMeter", fn := fun _ => fun
  | [d] => { results := [.lit (.bool true)], args := [d] }
  | _ => none }
def topMeterRow : OpenClaim := { program := "ytmakmlnfbdablaagreat", sum := "fdb1fc89b927e49ffbccbb2410c32da9db1663dc6818d5f50475abd3e4568b45", func := "suzerain/suzeraintop.TopMeter", spec := "topMeter", inPlace := ["slices.overlaps[int]", "internal/reflectlite.ValueOf", "internal/reflectlite.Swapper", "(internal/reflectlite.Value).Len"], unfollowed := true, recurses := true, named := ["math/bits.divideError", "math/bits.overflowError"], apart := false }
def TopMeterSaid : Prop := topMeterRow.holds Tryz.pinned (OpenSpec.ofChange topMeterSpec)

/-- ITS FALSE NEIGHBOUR: 'it returns false'. Refute it at one input. -/
def topMeterWrong : ChangeSpec := { name := "topMeter", fn := fun _ => fun
  | [d] => { results := [.lit (.bool false)], args := [d] }
  | _ => none }
def TopMeterWrongFalsely : Prop := topMeterRow.holds Tryz.pinned (OpenSpec.ofChange topMeterWrong)

/-- 'suzeraintop.TopTold': WHATEVER THE INPUT: true; the input reads as it did. -/
def topToldSpec : ChangeSpec := { name := "topTold", fn := fun _ => fun
  | [d] => { results := [.lit (.bool true)], args := [d] }
  | _ => none }
def topToldRow : OpenClaim := { program := "ytmakmlnfbdablaagreat", sum := "fdb1fc89b927e49ffbccbb2410c32da9db1663dc6818d5f50475abd3e4568b45", func := "suzerain/suzeraintop.TopTold", spec := "topTold", inPlace := ["slices.overlaps[int]", "internal/reflectlite.ValueOf", "internal/reflectlite.Swapper", "(internal/reflectlite.Value).Len"], unfollowed := true, recurses := true, named := ["math/bits.divideError", "math/bits.overflowError"], apart := false }
def TopToldSaid : Prop := topToldRow.holds Tryz.pinned (OpenSpec.ofChange topToldSpec)

/-- ITS FALSE NEIGHBOUR: 'it returns false'. Refute it at one input. -/
def topToldWrong : ChangeSpec := { name := "topTold", fn := fun _ => fun
  | [d] => { results := [.lit (.bool false)], args := [d] }
  | _ => none }
def TopToldWrongFalsely : Prop := topToldRow.holds Tryz.pinned (OpenSpec.ofChange topToldWrong)

/-- 'suzeraintop.TopSettles': WHATEVER THE INPUT: true; the input reads as it did. -/
def topSettlesSpec : ChangeSpec := { name := "topSettles", fn := fun _ => fun
  | [d] => { results := [.lit (.bool true)], args := [d] }
  | _ => none }
def topSettlesRow : OpenClaim := { program := "ytmakmlnfbdablaagreat", sum := "fdb1fc89b927e49ffbccbb2410c32da9db1663dc6818d5f50475abd3e4568b45", func := "suzerain/suzeraintop.TopSettles", spec := "topSettles", inPlace := ["slices.overlaps[int]", "internal/reflectlite.ValueOf", "internal/reflectlite.Swapper", "(internal/reflectlite.Value).Len"], unfollowed := true, recurses := true, named := ["math/bits.divideError", "math/bits.overflowError"], apart := false }
def TopSettlesSaid : Prop := topSettlesRow.holds Tryz.pinned (OpenSpec.ofChange topSettlesSpec)

/-- ITS FALSE NEIGHBOUR: 'it returns false'. Refute it at one input. -/
def topSettlesWrong : ChangeSpec := { name := "topSettles", fn := fun _ => fun
  | [d] => { results := [.lit (.bool false)], args := [d] }
  | _ => none }
def TopSettlesWrongFalsely : Prop := topSettlesRow.holds Tryz.pinned (OpenSpec.ofChange topSettlesWrong)

/-- 'suzeraintop.TopRefused': WHATEVER THE INPUT: true; the input reads as it did. -/
def topRefusedSpec : ChangeSpec := { name := "topRefused", fn := fun _ => fun
  | [d1, d2] => { results := [.lit (.bool true)], args := [d1, d2] }
  | _ => none }
def topRefusedRow : OpenClaim := { program := "ytmakmlnfbdablaagreat", sum := "fdb1fc89b927e49ffbccbb2410c32da9db1663dc6818d5f50475abd3e4568b45", func := "suzerain/suzeraintop.TopRefused", spec := "topRefused", inPlace := ["slices.overlaps[int]", "internal/reflectlite.ValueOf", "internal/reflectlite.Swapper", "(internal/reflectlite.Value).Len"], unfollowed := true, recurses := true, named := ["math/bits.divideError", "math/bits.overflowError"], apart := false }
def TopRefusedSaid : Prop := topRefusedRow.holds Tryz.pinned (OpenSpec.ofChange topRefusedSpec)

/-- ITS FALSE NEIGHBOUR: 'it returns false'. Refute it at one input. -/
def topRefusedWrong : ChangeSpec := { name := "topRefused", fn := fun _ => fun
  | [d1, d2] => { results := [.lit (.bool false)], args := [d1, d2] }
  | _ => none }
def TopRefusedWrongFalsely : Prop := topRefusedRow.holds Tryz.pinned (OpenSpec.ofChange topRefusedWrong)

/-- 'suzeraintop.TopMemory': WHATEVER THE INPUT: true; the input reads as it did. -/
def topMemorySpec : ChangeSpec := { name := "topMemory", fn := fun _ => fun
  | [d] => { results := [.lit (.bool true)], args := [d] }
  | _ => none }
def topMemoryRow : OpenClaim := { program := "ytmakmlnfbdablaagreat", sum := "fdb1fc89b927e49ffbccbb2410c32da9db1663dc6818d5f50475abd3e4568b45", func := "suzerain/suzeraintop.TopMemory", spec := "topMemory", inPlace := ["slices.overlaps[int]", "internal/reflectlite.ValueOf", "internal/reflectlite.Swapper", "(internal/reflectlite.Value).Len"], unfollowed := true, recurses := true, named := ["math/bits.divideError", "math/bits.overflowError"], apart := false }
def TopMemorySaid : Prop := topMemoryRow.holds Tryz.pinned (OpenSpec.ofChange topMemorySpec)

/-- ITS FALSE NEIGHBOUR: 'it returns false'. Refute it at one input. -/
def topMemoryWrong : ChangeSpec := { name := "topMemory", fn := fun _ => fun
  | [d] => { results := [.lit (.bool false)], args := [d] }
  | _ => none }
def TopMemoryWrongFalsely : Prop := topMemoryRow.holds Tryz.pinned (OpenSpec.ofChange topMemoryWrong)

/-- 'suzeraintop.TopEnds': WHATEVER THE INPUT: true; the input reads as it did. -/
def topEndsSpec : ChangeSpec := { name := "topEnds", fn := fun _ => fun
  | [d1, d2] => { results := [.lit (.bool true)], args := [d1, d2] }
  | _ => none }
def topEndsRow : OpenClaim := { program := "ytmakmlnfbdablaagreat", sum := "fdb1fc89b927e49ffbccbb2410c32da9db1663dc6818d5f50475abd3e4568b45", func := "suzerain/suzeraintop.TopEnds", spec := "topEnds", inPlace := ["slices.overlaps[int]", "internal/reflectlite.ValueOf", "internal/reflectlite.Swapper", "(internal/reflectlite.Value).Len"], unfollowed := true, recurses := true, named := ["math/bits.divideError", "math/bits.overflowError"], apart := false }
def TopEndsSaid : Prop := topEndsRow.holds Tryz.pinned (OpenSpec.ofChange topEndsSpec)

/-- ITS FALSE NEIGHBOUR: 'it returns false'. Refute it at one input. -/
def topEndsWrong : ChangeSpec := { name := "topEnds", fn := fun _ => fun
  | [d1, d2] => { results := [.lit (.bool false)], args := [d1, d2] }
  | _ => none }
def TopEndsWrongFalsely : Prop := topEndsRow.holds Tryz.pinned (OpenSpec.ofChange topEndsWrong)

/- THE SECOND FORM. 'bulk': how many values and letters a reading holds, each counted each time it is reached (what is shared counts as often as it is met; a slice's spare places count too). A statement '..UptoSaid' is the law's where the arguments, and the package variables that the reading takes, are together of bulk at most 1048576: NARROWER than '..Said'. Prove '..Said' where nothing that the law and all that it calls make is longer than what came in: it says more and counts as full. Else prove '..UptoSaid'. A law counts once. -/
mutual
def uptoBulk {H : Type} : DataW H → Nat
  | .lit (.string bytes) => bytes.length + 1
  | .lit _ => 1
  | .nil => 1
  | .ptr d => uptoBulk d + 1
  | .slice elems spare => uptoBulkAll elems + uptoBulkAll spare + 1
  | .agg parts => uptoBulkAll parts + 1
  | .iface _ d => uptoBulk d + 1
  | .map entries => uptoBulkEntries entries + 1
  | .held _ => 1
def uptoBulkAll {H : Type} : List (DataW H) → Nat
  | [] => 0
  | d :: r => uptoBulk d + uptoBulkAll r
def uptoBulkEntries {H : Type} : List (Lit × DataW H) → Nat
  | [] => 0
  | x :: r => uptoBulkEntry x + uptoBulkEntries r
def uptoBulkEntry {H : Type} : Lit × DataW H → Nat
  | (.string bytes, d) => bytes.length + uptoBulk d + 1
  | (_, d) => uptoBulk d + 1
 end
def uptoSmall : (H : Type) → List (DataW H) → Bool := fun _ ds => decide (uptoBulkAll ds ≤ 1048576)
def OpenSpec.upto (s : _root_.Go.ChangeSpec) : _root_.Go.OpenSpec := { _root_.Go.OpenSpec.ofChange s with cond := some uptoSmall }

/-- 'suzeraintop.TopRuns', WHERE WHAT IT READS IS OF BULK AT MOST 1048576: true; the input reads as it did. -/
def topRunsUptoRow : OpenClaim := { program := "ytmakmlnfbdablaagreat", sum := "fdb1fc89b927e49ffbccbb2410c32da9db1663dc6818d5f50475abd3e4568b45", func := "suzerain/suzeraintop.TopRuns", spec := "topRuns", inPlace := ["slices.overlaps[int]", "internal/reflectlite.ValueOf", "internal/reflectlite.Swapper", "(internal/reflectlite.Value).Len"], unfollowed := true, recurses := true, named := ["math/bits.divideError", "math/bits.overflowError"], apart := false, narrowed := true }
def TopRunsUptoSaid : Prop := topRunsUptoRow.holds Tryz.pinned (OpenSpec.upto topRunsSpec)

/-- 'suzeraintop.TopTokens', WHERE WHAT IT READS IS OF BULK AT MOST 1048576: true; the input reads as it did. -/
def topTokensUptoRow : OpenClaim := { program := "ytmakmlnfbdablaagreat", sum := "fdb1fc89b927e49ffbccbb2410c32da9db1663dc6818d5f50475abd3e4568b45", func := "suzerain/suzeraintop.TopTokens", spec := "topTokens", inPlace := ["slices.overlaps[int]", "internal/reflectlite.ValueOf", "internal/reflectlite.Swapper", "(internal/reflectlite.Value).Len"], unfollowed := true, recurses := true, named := ["math/bits.divideError", "math/bits.overflowError"], apart := false, narrowed := true }
def TopTokensUptoSaid : Prop := topTokensUptoRow.holds Tryz.pinned (OpenSpec.upto topTokensSpec)

/-- 'suzeraintop.TopGood', WHERE WHAT IT READS IS OF BULK AT MOST 1048576: true; the input reads as it did. -/
def topGoodUptoRow : OpenClaim := { program := "ytmakmlnfbdablaagreat", sum := "fdb1fc89b927e49ffbccbb2410c32da9db1663dc6818d5f50475abd3e4568b45", func := "suzerain/suzeraintop.TopGood", spec := "topGood", inPlace := ["slices.overlaps[int]", "internal/reflectlite.ValueOf", "internal/reflectlite.Swapper", "(internal/reflectlite.Value).Len"], unfollowed := true, recurses := true, named := ["math/bits.divideError", "math/bits.overflowError"], apart := false, narrowed := true }
def TopGoodUptoSaid : Prop := topGoodUptoRow.holds Tryz.pinned (OpenSpec.upto topGoodSpec)

/-- 'suzeraintop.TopOrder', WHERE WHAT IT READS IS OF BULK AT MOST 1048576: true; the input reads as it did. -/
def topOrderUptoRow : OpenClaim := { program := "ytmakmlnfbdablaagreat", sum := "fdb1fc89b927e49ffbccbb2410c32da9db1663dc6818d5f50475abd3e4568b45", func := "suzerain/suzeraintop.TopOrder", spec := "topOrder", inPlace := ["slices.overlaps[int]", "internal/reflectlite.ValueOf", "internal/reflectlite.Swapper", "(internal/reflectlite.Value).Len"], unfollowed := true, recurses := true, named := ["math/bits.divideError", "math/bits.overflowError"], apart := false, narrowed := true }
def TopOrderUptoSaid : Prop := topOrderUptoRow.holds Tryz.pinned (OpenSpec.upto topOrderSpec)

/-- 'suzeraintop.TopForged', WHERE WHAT IT READS IS OF BULK AT MOST 1048576: true; the input reads as it did. -/
def topForgedUptoRow : OpenClaim := { program := "ytmakmlnfbdablaagreat", sum := "fdb1fc89b927e49ffbccbb2410c32da9db1663dc6818d5f50475abd3e4568b45", func := "suzerain/suzeraintop.TopForged", spec := "topForged", inPlace := ["slices.overlaps[int]", "internal/reflectlite.ValueOf", "internal/reflectlite.Swapper", "(internal/reflectlite.Value).Len"], unfollowed := true, recurses := true, named := ["math/bits.divideError", "math/bits.overflowError"], apart := false, narrowed := true }
def TopForgedUptoSaid : Prop := topForgedUptoRow.holds Tryz.pinned (OpenSpec.upto topForgedSpec)

/-- 'suzeraintop.TopDead', WHERE WHAT IT READS IS OF BULK AT MOST 1048576: true; the input reads as it did. -/
def topDeadUptoRow : OpenClaim := { program := "ytmakmlnfbdablaagreat", sum := "fdb1fc89b927e49ffbccbb2410c32da9db1663dc6818d5f50475abd3e4568b45", func := "suzerain/suzeraintop.TopDead", spec := "topDead", inPlace := ["slices.overlaps[int]", "internal/reflectlite.ValueOf", "internal/reflectlite.Swapper", "(internal/reflectlite.Value).Len"], unfollowed := true, recurses := true, named := ["math/bits.divideError", "math/bits.overflowError"], apart := false, narrowed := true }
def TopDeadUptoSaid : Prop := topDeadUptoRow.holds Tryz.pinned (OpenSpec.upto topDeadSpec)

/-- 'suzeraintop.TopMeter', WHERE WHAT IT READS IS OF BULK AT MOST 1048576: true; the input reads as it did. -/
def topMeterUptoRow : OpenClaim := { program := "ytmakmlnfbdablaagreat", sum := "fdb1fc89b927e49ffbccbb2410c32da9db1663dc6818d5f50475abd3e4568b45", func := "suzerain/suzeraintop.TopMeter", spec := "topMeter", inPlace := ["slices.overlaps[int]", "internal/reflectlite.ValueOf", "internal/reflectlite.Swapper", "(internal/reflectlite.Value).Len"], unfollowed := true, recurses := true, named := ["math/bits.divideError", "math/bits.overflowError"], apart := false, narrowed := true }
def TopMeterUptoSaid : Prop := topMeterUptoRow.holds Tryz.pinned (OpenSpec.upto topMeterSpec)

/-- 'suzeraintop.TopTold', WHERE WHAT IT READS IS OF BULK AT MOST 1048576: true; the input reads as it did. -/
def topToldUptoRow : OpenClaim := { program := "ytmakmlnfbdablaagreat", sum := "fdb1fc89b927e49ffbccbb2410c32da9db1663dc6818d5f50475abd3e4568b45", func := "suzerain/suzeraintop.TopTold", spec := "topTold", inPlace := ["slices.overlaps[int]", "internal/reflectlite.ValueOf", "internal/reflectlite.Swapper", "(internal/reflectlite.Value).Len"], unfollowed := true, recurses := true, named := ["math/bits.divideError", "math/bits.overflowError"], apart := false, narrowed := true }
def TopToldUptoSaid : Prop := topToldUptoRow.holds Tryz.pinned (OpenSpec.upto topToldSpec)

/-- 'suzeraintop.TopSettles', WHERE WHAT IT READS IS OF BULK AT MOST 1048576: true; the input reads as it did. -/
def topSettlesUptoRow : OpenClaim := { program := "ytmakmlnfbdablaagreat", sum := "fdb1fc89b927e49ffbccbb2410c32da9db1663dc6818d5f50475abd3e4568b45", func := "suzerain/suzeraintop.TopSettles", spec := "topSettles", inPlace := ["slices.overlaps[int]", "internal/reflectlite.ValueOf", "internal/reflectlite.Swapper", "(internal/reflectlite.Value).Len"], unfollowed := true, recurses := true, named := ["math/bits.divideError", "math/bits.overflowError"], apart := false, narrowed := true }
def TopSettlesUptoSaid : Prop := topSettlesUptoRow.holds Tryz.pinned (OpenSpec.upto topSettlesSpec)

/-- 'suzeraintop.TopRefused', WHERE WHAT IT READS IS OF BULK AT MOST 1048576: true; the input reads as it did. -/
def topRefusedUptoRow : OpenClaim := { program := "ytmakmlnfbdablaagreat", sum := "fdb1fc89b927e49ffbccbb2410c32da9db1663dc6818d5f50475abd3e4568b45", func := "suzerain/suzeraintop.TopRefused", spec := "topRefused", inPlace := ["slices.overlaps[int]", "internal/reflectlite.ValueOf", "internal/reflectlite.Swapper", "(internal/reflectlite.Value).Len"], unfollowed := true, recurses := true, named := ["math/bits.divideError", "math/bits.overflowError"], apart := false, narrowed := true }
def TopRefusedUptoSaid : Prop := topRefusedUptoRow.holds Tryz.pinned (OpenSpec.upto topRefusedSpec)

/-- 'suzeraintop.TopMemory', WHERE WHAT IT READS IS OF BULK AT MOST 1048576: true; the input reads as it did. -/
def topMemoryUptoRow : OpenClaim := { program := "ytmakmlnfbdablaagreat", sum := "fdb1fc89b927e49ffbccbb2410c32da9db1663dc6818d5f50475abd3e4568b45", func := "suzerain/suzeraintop.TopMemory", spec := "topMemory", inPlace := ["slices.overlaps[int]", "internal/reflectlite.ValueOf", "internal/reflectlite.Swapper", "(internal/reflectlite.Value).Len"], unfollowed := true, recurses := true, named := ["math/bits.divideError", "math/bits.overflowError"], apart := false, narrowed := true }
def TopMemoryUptoSaid : Prop := topMemoryUptoRow.holds Tryz.pinned (OpenSpec.upto topMemorySpec)

/-- 'suzeraintop.TopEnds', WHERE WHAT IT READS IS OF BULK AT MOST 1048576: true; the input reads as it did. -/
def topEndsUptoRow : OpenClaim := { program := "ytmakmlnfbdablaagreat", sum := "fdb1fc89b927e49ffbccbb2410c32da9db1663dc6818d5f50475abd3e4568b45", func := "suzerain/suzeraintop.TopEnds", spec := "topEnds", inPlace := ["slices.overlaps[int]", "internal/reflectlite.ValueOf", "internal/reflectlite.Swapper", "(internal/reflectlite.Value).Len"], unfollowed := true, recurses := true, named := ["math/bits.divideError", "math/bits.overflowError"], apart := false, narrowed := true }
def TopEndsUptoSaid : Prop := topEndsUptoRow.holds Tryz.pinned (OpenSpec.upto topEndsSpec)

end Rows
end Go.Proofs.YtmakmlnfbdablaaGreat
