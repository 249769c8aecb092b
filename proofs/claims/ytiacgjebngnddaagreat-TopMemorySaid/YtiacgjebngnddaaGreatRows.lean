/-
  No cell of these rows narrows 'for every input' (looked for: loops, veiled, ifaces, maps, wideKeys, modest, calm, conditions, laid).
  DERIVED. THE GIVEN ROWS OF THIS SEAT. 5 by the template 'for every input the law returns true; each argument reads behind the call as it read before'; 0 by the template 'total and deterministic' (their statements: YtiacgjebngnddaaGreatTotals.lean).
  GIVEN WITH THE SEED: the statements are not yours to turn. If you find one false, say at which input.
  Laid BY PROGRAM, IN A SANDBOX (cutbox-rows.mjs): the forced cells as the released guide's own fill.sh prints them over the translation 29ea218e5c783d48… (all of the seat's roots in one cut). By AI agents, Wed Nov 11 2026. No macro, syntax, notation, axiom, sorry.
-/
import Derived.Test.YtiacgjebngnddaaGreatChecked
import GoSem.Claim
import GoSem.ClaimJoined
import GoSem.ClaimMapViews
import Derived.JoinedTies
import Derived.KernelRfl
namespace Go.Proofs.YtiacgjebngnddaaGreat
/- THE CELL 'sum', in the pinned program and in every row, IS THE sha256 OF THE DUMP (.gsa) THAT YtiacgjebngnddaaGreatProg.lean LOADS. Nothing in Lean hashes anything: it is a label: what it is worth is what the hold of that sum in a sandbox is worth. -/
noncomputable def Tryz.pinned : Pinned := { name := "ytiacgjebngnddaagreat", sum := "29ea218e5c783d48134563a0c0939defc9a59d86bd877240a4a796695a1cea40", checked := Tryz.checked }
namespace Rows
def none {H : Type} : Left H := { results := [], args := [] }

/-- 'suzeraintop.TopSets': WHATEVER THE INPUT: true; the input reads as it did. -/
def topSetsSpec : ChangeSpec := { name := "topSets", fn := fun _ => fun
  | [d] => { results := [.lit (.bool true)], args := [d] }
  | _ => none }
def topSetsRow : OpenClaim := { program := "ytiacgjebngnddaagreat", sum := "29ea218e5c783d48134563a0c0939defc9a59d86bd877240a4a796695a1cea40", func := "suzerain/suzeraintop.TopSets", spec := "topSets", inPlace := ["slices.overlaps[int]", "internal/reflectlite.ValueOf", "internal/reflectlite.Swapper", "(internal/reflectlite.Value).Len"], unfollowed := true, recurses := true, named := ["math/bits.divideError", "math/bits.overflowError"], apart := false }
def TopSetsSaid : Prop := topSetsRow.holds Tryz.pinned (OpenSpec.ofChange topSetsSpec)

/-- ITS FALSE NEIGHBOUR: 'it returns false'. Refute it at one input. -/
def topSetsWrong : ChangeSpec := { name := "topSets", fn := fun _ => fun
  | [d] => { results := [.lit (.bool false)], args := [d] }
  | _ => none }
def TopSetsWrongFalsely : Prop := topSetsRow.holds Tryz.pinned (OpenSpec.ofChange topSetsWrong)

/-- 'suzeraintop.TopHeld': WHATEVER THE INPUT: true; the input reads as it did. -/
def topHeldSpec : ChangeSpec := { name := "topHeld", fn := fun _ => fun
  | [d] => { results := [.lit (.bool true)], args := [d] }
  | _ => none }
def topHeldRow : OpenClaim := { program := "ytiacgjebngnddaagreat", sum := "29ea218e5c783d48134563a0c0939defc9a59d86bd877240a4a796695a1cea40", func := "suzerain/suzeraintop.TopHeld", spec := "topHeld", inPlace := ["slices.overlaps[int]", "internal/reflectlite.ValueOf", "internal/reflectlite.Swapper", "(internal/reflectlite.Value).Len"], unfollowed := true, recurses := true, named := ["math/bits.divideError", "math/bits.overflowError"], apart := false }
def TopHeldSaid : Prop := topHeldRow.holds Tryz.pinned (OpenSpec.ofChange topHeldSpec)

/-- ITS FALSE NEIGHBOUR: 'it returns false'. Refute it at one input. -/
def topHeldWrong : ChangeSpec := { name := "topHeld", fn := fun _ => fun
  | [d] => { results := [.lit (.bool false)], args := [d] }
  | _ => none }
def TopHeldWrongFalsely : Prop := topHeldRow.holds Tryz.pinned (OpenSpec.ofChange topHeldWrong)

/-- 'suzeraintop.TopBacked': WHATEVER THE INPUT: true; the input reads as it did. -/
def topBackedSpec : ChangeSpec := { name := "topBacked", fn := fun _ => fun
  | [d] => { results := [.lit (.bool true)], args := [d] }
  | _ => none }
def topBackedRow : OpenClaim := { program := "ytiacgjebngnddaagreat", sum := "29ea218e5c783d48134563a0c0939defc9a59d86bd877240a4a796695a1cea40", func := "suzerain/suzeraintop.TopBacked", spec := "topBacked", inPlace := ["slices.overlaps[int]", "internal/reflectlite.ValueOf", "internal/reflectlite.Swapper", "(internal/reflectlite.Value).Len"], unfollowed := true, recurses := true, named := ["math/bits.divideError", "math/bits.overflowError"], apart := false }
def TopBackedSaid : Prop := topBackedRow.holds Tryz.pinned (OpenSpec.ofChange topBackedSpec)

/-- ITS FALSE NEIGHBOUR: 'it returns false'. Refute it at one input. -/
def topBackedWrong : ChangeSpec := { name := "topBacked", fn := fun _ => fun
  | [d] => { results := [.lit (.bool false)], args := [d] }
  | _ => none }
def TopBackedWrongFalsely : Prop := topBackedRow.holds Tryz.pinned (OpenSpec.ofChange topBackedWrong)

/-- 'suzeraintop.TopSettles': WHATEVER THE INPUT: true; the input reads as it did. -/
def topSettlesSpec : ChangeSpec := { name := "topSettles", fn := fun _ => fun
  | [d] => { results := [.lit (.bool true)], args := [d] }
  | _ => none }
def topSettlesRow : OpenClaim := { program := "ytiacgjebngnddaagreat", sum := "29ea218e5c783d48134563a0c0939defc9a59d86bd877240a4a796695a1cea40", func := "suzerain/suzeraintop.TopSettles", spec := "topSettles", inPlace := ["slices.overlaps[int]", "internal/reflectlite.ValueOf", "internal/reflectlite.Swapper", "(internal/reflectlite.Value).Len"], unfollowed := true, recurses := true, named := ["math/bits.divideError", "math/bits.overflowError"], apart := false }
def TopSettlesSaid : Prop := topSettlesRow.holds Tryz.pinned (OpenSpec.ofChange topSettlesSpec)

/-- ITS FALSE NEIGHBOUR: 'it returns false'. Refute it at one input. -/
def topSettlesWrong : ChangeSpec := { name := "topSettles", fn := fun _ => fun
  | [d] => { results := [.lit (.bool false)], args := [d] }
  | _ => none }
def TopSettlesWrongFalsely : Prop := topSettlesRow.holds Tryz.pinned (OpenSpec.ofChange topSettlesWrong)

/-- 'suzeraintop.TopMemory': WHATEVER THE INPUT: true; the input reads as it did. -/
def topMemorySpec : ChangeSpec := { name := "topMemory", fn := fun _ => fun
  | [d] => { results := [.lit (.bool true)], args := [d] }
  | _ => none }
def topMemoryRow : OpenClaim := { program := "ytiacgjebngnddaagreat", sum := "29ea218e5c783d48134563a0c0939defc9a59d86bd877240a4a796695a1cea40", func := "suzerain/suzeraintop.TopMemory", spec := "topMemory", inPlace := ["slices.overlaps[int]", "internal/reflectlite.ValueOf", "internal/reflectlite.Swapper", "(internal/reflectlite.Value).Len"], unfollowed := true, recurses := true, named := ["math/bits.divideError", "math/bits.overflowError"], apart := false }
def TopMemorySaid : Prop := topMemoryRow.holds Tryz.pinned (OpenSpec.ofChange topMemorySpec)

/-- ITS FALSE NEIGHBOUR: 'it returns false'. Refute it at one input. -/
def topMemoryWrong : ChangeSpec := { name := "topMemory", fn := fun _ => fun
  | [d] => { results := [.lit (.bool false)], args := [d] }
  | _ => none }
def TopMemoryWrongFalsely : Prop := topMemoryRow.holds Tryz.pinned (OpenSpec.ofChange topMemoryWrong)

/- THE SECOND FORM. 'bulk': how many values and letters a reading holds, each counted each time it is reached (what is shared counts as often as it is met; a slice's spare places count too). A statement '..UptoSaid' is the law's where the arguments, and the package variables that the reading takes, are together of bulk at most 1048576: NARROWER than '..Said'. Prove '..Said' where nothing that the law and all that it calls make is longer than what came in: it says more and counts as full. Else prove '..UptoSaid'. A law counts once. -/
mutual
def uptoBulk {H : Type} : DataW H → Nat
  | .lit (.string bytes) => bytes.length + 1
  | .lit _ => 1
  | .nil => 1
  | .ptr d => uptoBulk d + 1
  | .slice elems spare => uptoBulkAll elems + uptoBulkAll spare + 1
  | .agg parts => uptoBulkAll parts + 1
  | .iface _ d => uptoBulk d + 1
  | .map entries => uptoBulkEntries entries + 1
  | .held _ => 1
def uptoBulkAll {H : Type} : List (DataW H) → Nat
  | [] => 0
  | d :: r => uptoBulk d + uptoBulkAll r
def uptoBulkEntries {H : Type} : List (Lit × DataW H) → Nat
  | [] => 0
  | x :: r => uptoBulkEntry x + uptoBulkEntries r
def uptoBulkEntry {H : Type} : Lit × DataW H → Nat
  | (.string bytes, d) => bytes.length + uptoBulk d + 1
  | (_, d) => uptoBulk d + 1
 end
def uptoSmall : (H : Type) → List (DataW H) → Bool := fun _ ds => decide (uptoBulkAll ds ≤ 1048576)
def OpenSpec.upto (s : _root_.Go.ChangeSpec) : _root_.Go.OpenSpec := { _root_.Go.OpenSpec.ofChange s with cond := some uptoSmall }

/-- 'suzeraintop.TopSets', WHERE WHAT IT READS IS OF BULK AT MOST 1048576: true; the input reads as it did. -/
def topSetsUptoRow : OpenClaim := { program := "ytiacgjebngnddaagreat", sum := "29ea218e5c783d48134563a0c0939defc9a59d86bd877240a4a796695a1cea40", func := "suzerain/suzeraintop.TopSets", spec := "topSets", inPlace := ["slices.overlaps[int]", "internal/reflectlite.ValueOf", "internal/reflectlite.Swapper", "(internal/reflectlite.Value).Len"], unfollowed := true, recurses := true, named := ["math/bits.divideError", "math/bits.overflowError"], apart := false, narrowed := true }
def TopSetsUptoSaid : Prop := topSetsUptoRow.holds Tryz.pinned (OpenSpec.upto topSetsSpec)

/-- 'suzeraintop.TopHeld', WHERE WHAT IT READS IS OF BULK AT MOST 1048576: true; the input reads as it did. -/
def topHeldUptoRow : OpenClaim := { program := "ytiacgjebngnddaagreat", sum := "29ea218e5c783d48134563a0c0939defc9a59d86bd877240a4a796695a1cea40", func := "suzerain/suzeraintop.TopHeld", spec := "topHeld", inPlace := ["slices.overlaps[int]", "internal/reflectlite.ValueOf", "internal/reflectlite.Swapper", "(internal/reflectlite.Value).Len"], unfollowed := true, recurses := true, named := ["math/bits.divideError", "math/bits.overflowError"], apart := false, narrowed := true }
def TopHeldUptoSaid : Prop := topHeldUptoRow.holds Tryz.pinned (OpenSpec.upto topHeldSpec)

/-- 'suzeraintop.TopBacked', WHERE WHAT IT READS IS OF BULK AT MOST 1048576: true; the input reads as it did. -/
def topBackedUptoRow : OpenClaim := { program := "ytiacgjebngnddaagreat", sum := "29ea218e5c783d48134563a0c0939defc9a59d86bd877240a4a796695a1cea40", func := "suzerain/suzeraintop.TopBacked", spec := "topBacked", inPlace := ["slices.overlaps[int]", "internal/reflectlite.ValueOf", "internal/reflectlite.Swapper", "(internal/reflectlite.Value).Len"], unfollowed := true, recurses := true, named := ["math/bits.divideError", "math/bits.overflowError"], apart := false, narrowed := true }
def TopBackedUptoSaid : Prop := topBackedUptoRow.holds Tryz.pinned (OpenSpec.upto topBackedSpec)

/-- 'suzeraintop.TopSettles', WHERE WHAT IT READS IS OF BULK AT MOST 1048576: true; the input reads as it did. -/
def topSettlesUptoRow : OpenClaim := { program := "ytiacgjebngnddaagreat", sum := "29ea218e5c783d48134563a0c0939defc9a59d86bd877240a4a796695a1cea40", func := "suzerain/suzeraintop.TopSettles", spec := "topSettles", inPlace := ["slices.overlaps[int]", "internal/reflectlite.ValueOf", "internal/reflectlite.Swapper", "(internal/reflectlite.Value).Len"], unfollowed := true, recurses := true, named := ["math/bits.divideError", "math/bits.overflowError"], apart := false, narrowed := true }
def TopSettlesUptoSaid : Prop := topSettlesUptoRow.holds Tryz.pinned (OpenSpec.upto topSettlesSpec)

/-- 'suzeraintop.TopMemory', WHERE WHAT IT READS IS OF BULK AT MOST 1048576: true; the input reads as it did. -/
def topMemoryUptoRow : OpenClaim := { program := "ytiacgjebngnddaagreat", sum := "29ea218e5c783d48134563a0c0939defc9a59d86bd877240a4a796695a1cea40", func := "suzerain/suzeraintop.TopMemory", spec := "topMemory", inPlace := ["slices.overlaps[int]", "internal/reflectlite.ValueOf", "internal/reflectlite.Swapper", "(internal/reflectlite.Value).Len"], unfollowed := true, recurses := true, named := ["math/bits.divideError", "math/bits.overflowError"], apart := false, narrowed := true }
def TopMemoryUptoSaid : Prop := topMemoryUptoRow.holds Tryz.pinned (OpenSpec.upto topMemorySpec)

end Rows
end Go.Proofs.YtiacgjebngnddaaGreat
