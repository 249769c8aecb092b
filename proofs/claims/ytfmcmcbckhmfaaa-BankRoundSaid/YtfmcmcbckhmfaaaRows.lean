/-
  No cell of these rows narrows 'for every input' (looked for: loops, veiled, ifaces, maps, wideKeys, modest, calm, conditions, laid).
  DERIVED. THE GIVEN ROWS OF THIS SEAT. 22 by the template 'for every input the law returns true; each argument reads behind the call as it read before'; 0 by the template 'total and deterministic' (their statements: YtfmcmcbckhmfaaaTotals.lean).
  GIVEN WITH THE SEED: the statements are not yours to turn. If you find one false, say at which input.
  Laid BY PROGRAM, IN A SANDBOX (cutbox-rows.mjs): the forced cells as the released guide's own fill.sh prints them over the translation e18df0c0b19784cd… (all of the seat's roots in one cut). By AI agents, Wed Nov 11 2026. No macro, syntax, notation, axiom, sorry.
-/
import Derived.Test.YtfmcmcbckhmfaaaChecked
import GoSem.Claim
import GoSem.ClaimJoined
import GoSem.ClaimMapViews
import Derived.JoinedTies
import Derived.KernelRfl
namespace Go.Proofs.Ytfmcmcbckhmfaaa
/- THE CELL 'sum', in the pinned program and in every row, IS THE sha256 OF THE DUMP (.gsa) THAT YtfmcmcbckhmfaaaProg.lean LOADS. Nothing in Lean hashes anything: it is a label: what it is worth is what the hold of that sum in a sandbox is worth. -/
noncomputable def Try.pinned : Pinned := { name := "ytfmcmcbckhmfaaa", sum := "e18df0c0b19784cd5865396f52e2d6f4dcd1a083f19f46fdb1521cf32adbbfe8", checked := Try.checked }
namespace Rows
def none {H : Type} : Left H := { results := [], args := [] }

/-- 'suzerainlaw.Names': WHATEVER THE INPUT: true; the input reads as it did. -/
def namesSpec : ChangeSpec := { name := "names", fn := fun _ => fun
  | [] => { results := [.lit (.bool true)], args := [] }
  | _ => none }
def namesRow : OpenClaim := { program := "ytfmcmcbckhmfaaa", sum := "e18df0c0b19784cd5865396f52e2d6f4dcd1a083f19f46fdb1521cf32adbbfe8", func := "suzerain/suzerainlaw.Names", spec := "names", apart := false }
def NamesSaid : Prop := namesRow.holds Try.pinned (OpenSpec.ofChange namesSpec)

/-- ITS FALSE NEIGHBOUR: 'it returns false'. Refute it at one input. -/
def namesWrong : ChangeSpec := { name := "names", fn := fun _ => fun
  | [] => { results := [.lit (.bool false)], args := [] }
  | _ => none }
def NamesWrongFalsely : Prop := namesRow.holds Try.pinned (OpenSpec.ofChange namesWrong)

/-- 'suzerainlaw.MeterTicks': WHATEVER THE INPUT: true; the input reads as it did. -/
def meterTicksSpec : ChangeSpec := { name := "meterTicks", fn := fun _ => fun
  | [d1, d2, d3, d4] => { results := [.lit (.bool true)], args := [d1, d2, d3, d4] }
  | _ => none }
def meterTicksRow : OpenClaim := { program := "ytfmcmcbckhmfaaa", sum := "e18df0c0b19784cd5865396f52e2d6f4dcd1a083f19f46fdb1521cf32adbbfe8", func := "suzerain/suzerainlaw.MeterTicks", spec := "meterTicks", apart := false }
def MeterTicksSaid : Prop := meterTicksRow.holds Try.pinned (OpenSpec.ofChange meterTicksSpec)

/-- ITS FALSE NEIGHBOUR: 'it returns false'. Refute it at one input. -/
def meterTicksWrong : ChangeSpec := { name := "meterTicks", fn := fun _ => fun
  | [d1, d2, d3, d4] => { results := [.lit (.bool false)], args := [d1, d2, d3, d4] }
  | _ => none }
def MeterTicksWrongFalsely : Prop := meterTicksRow.holds Try.pinned (OpenSpec.ofChange meterTicksWrong)

/-- 'suzerainkeep.MeterBounds': WHATEVER THE INPUT: true; the input reads as it did. -/
def meterBoundsSpec : ChangeSpec := { name := "meterBounds", fn := fun _ => fun
  | [d1, d2] => { results := [.lit (.bool true)], args := [d1, d2] }
  | _ => none }
def meterBoundsRow : OpenClaim := { program := "ytfmcmcbckhmfaaa", sum := "e18df0c0b19784cd5865396f52e2d6f4dcd1a083f19f46fdb1521cf32adbbfe8", func := "suzerain/suzerainkeep.MeterBounds", spec := "meterBounds", apart := false }
def MeterBoundsSaid : Prop := meterBoundsRow.holds Try.pinned (OpenSpec.ofChange meterBoundsSpec)

/-- ITS FALSE NEIGHBOUR: 'it returns false'. Refute it at one input. -/
def meterBoundsWrong : ChangeSpec := { name := "meterBounds", fn := fun _ => fun
  | [d1, d2] => { results := [.lit (.bool false)], args := [d1, d2] }
  | _ => none }
def MeterBoundsWrongFalsely : Prop := meterBoundsRow.holds Try.pinned (OpenSpec.ofChange meterBoundsWrong)

/-- 'suzerainlaw.LineSays': WHATEVER THE INPUT: true; the input reads as it did. -/
def lineSaysSpec : ChangeSpec := { name := "lineSays", fn := fun _ => fun
  | [d1, d2, d3] => { results := [.lit (.bool true)], args := [d1, d2, d3] }
  | _ => none }
def lineSaysRow : OpenClaim := { program := "ytfmcmcbckhmfaaa", sum := "e18df0c0b19784cd5865396f52e2d6f4dcd1a083f19f46fdb1521cf32adbbfe8", func := "suzerain/suzerainlaw.LineSays", spec := "lineSays", unfollowed := true, recurses := true, apart := false }
def LineSaysSaid : Prop := lineSaysRow.holds Try.pinned (OpenSpec.ofChange lineSaysSpec)

/-- ITS FALSE NEIGHBOUR: 'it returns false'. Refute it at one input. -/
def lineSaysWrong : ChangeSpec := { name := "lineSays", fn := fun _ => fun
  | [d1, d2, d3] => { results := [.lit (.bool false)], args := [d1, d2, d3] }
  | _ => none }
def LineSaysWrongFalsely : Prop := lineSaysRow.holds Try.pinned (OpenSpec.ofChange lineSaysWrong)

/-- 'suzerainlaw.CodecEncodes': WHATEVER THE INPUT: true; the input reads as it did. -/
def codecEncodesSpec : ChangeSpec := { name := "codecEncodes", fn := fun _ => fun
  | [d] => { results := [.lit (.bool true)], args := [d] }
  | _ => none }
def codecEncodesRow : OpenClaim := { program := "ytfmcmcbckhmfaaa", sum := "e18df0c0b19784cd5865396f52e2d6f4dcd1a083f19f46fdb1521cf32adbbfe8", func := "suzerain/suzerainlaw.CodecEncodes", spec := "codecEncodes", apart := false }
def CodecEncodesSaid : Prop := codecEncodesRow.holds Try.pinned (OpenSpec.ofChange codecEncodesSpec)

/-- ITS FALSE NEIGHBOUR: 'it returns false'. Refute it at one input. -/
def codecEncodesWrong : ChangeSpec := { name := "codecEncodes", fn := fun _ => fun
  | [d] => { results := [.lit (.bool false)], args := [d] }
  | _ => none }
def CodecEncodesWrongFalsely : Prop := codecEncodesRow.holds Try.pinned (OpenSpec.ofChange codecEncodesWrong)

/-- 'suzerainkeep.CodecApart': WHATEVER THE INPUT: true; the input reads as it did. -/
def codecApartSpec : ChangeSpec := { name := "codecApart", fn := fun _ => fun
  | [d1, d2] => { results := [.lit (.bool true)], args := [d1, d2] }
  | _ => none }
def codecApartRow : OpenClaim := { program := "ytfmcmcbckhmfaaa", sum := "e18df0c0b19784cd5865396f52e2d6f4dcd1a083f19f46fdb1521cf32adbbfe8", func := "suzerain/suzerainkeep.CodecApart", spec := "codecApart", apart := false }
def CodecApartSaid : Prop := codecApartRow.holds Try.pinned (OpenSpec.ofChange codecApartSpec)

/-- ITS FALSE NEIGHBOUR: 'it returns false'. Refute it at one input. -/
def codecApartWrong : ChangeSpec := { name := "codecApart", fn := fun _ => fun
  | [d1, d2] => { results := [.lit (.bool false)], args := [d1, d2] }
  | _ => none }
def CodecApartWrongFalsely : Prop := codecApartRow.holds Try.pinned (OpenSpec.ofChange codecApartWrong)

/-- 'suzerainkeep.BankRound': WHATEVER THE INPUT: true; the input reads as it did. -/
def bankRoundSpec : ChangeSpec := { name := "bankRound", fn := fun _ => fun
  | [d1, d2, d3] => { results := [.lit (.bool true)], args := [d1, d2, d3] }
  | _ => none }
def bankRoundRow : OpenClaim := { program := "ytfmcmcbckhmfaaa", sum := "e18df0c0b19784cd5865396f52e2d6f4dcd1a083f19f46fdb1521cf32adbbfe8", func := "suzerain/suzerainkeep.BankRound", spec := "bankRound", unfollowed := true, recurses := true, apart := false }
def BankRoundSaid : Prop := bankRoundRow.holds Try.pinned (OpenSpec.ofChange bankRoundSpec)

/-- ITS FALSE NEIGHBOUR: 'it returns false'. Refute it at one input. -/
def bankRoundWrong : ChangeSpec := { name := "bankRound", fn := fun _ => fun
  | [d1, d2, d3] => { results := [.lit (.bool false)], args := [d1, d2, d3] }
  | _ => none }
def BankRoundWrongFalsely : Prop := bankRoundRow.holds Try.pinned (OpenSpec.ofChange bankRoundWrong)

/-- 'suzerainlaw.LineDelivers': WHATEVER THE INPUT: true; the input reads as it did. -/
def lineDeliversSpec : ChangeSpec := { name := "lineDelivers", fn := fun _ => fun
  | [d1, d2, d3, d4, d5] => { results := [.lit (.bool true)], args := [d1, d2, d3, d4, d5] }
  | _ => none }
def lineDeliversRow : OpenClaim := { program := "ytfmcmcbckhmfaaa", sum := "e18df0c0b19784cd5865396f52e2d6f4dcd1a083f19f46fdb1521cf32adbbfe8", func := "suzerain/suzerainlaw.LineDelivers", spec := "lineDelivers", unfollowed := true, recurses := true, apart := false }
def LineDeliversSaid : Prop := lineDeliversRow.holds Try.pinned (OpenSpec.ofChange lineDeliversSpec)

/-- ITS FALSE NEIGHBOUR: 'it returns false'. Refute it at one input. -/
def lineDeliversWrong : ChangeSpec := { name := "lineDelivers", fn := fun _ => fun
  | [d1, d2, d3, d4, d5] => { results := [.lit (.bool false)], args := [d1, d2, d3, d4, d5] }
  | _ => none }
def LineDeliversWrongFalsely : Prop := lineDeliversRow.holds Try.pinned (OpenSpec.ofChange lineDeliversWrong)

/-- 'suzerainlaw.LineExpires': WHATEVER THE INPUT: true; the input reads as it did. -/
def lineExpiresSpec : ChangeSpec := { name := "lineExpires", fn := fun _ => fun
  | [d1, d2, d3, d4] => { results := [.lit (.bool true)], args := [d1, d2, d3, d4] }
  | _ => none }
def lineExpiresRow : OpenClaim := { program := "ytfmcmcbckhmfaaa", sum := "e18df0c0b19784cd5865396f52e2d6f4dcd1a083f19f46fdb1521cf32adbbfe8", func := "suzerain/suzerainlaw.LineExpires", spec := "lineExpires", unfollowed := true, recurses := true, apart := false }
def LineExpiresSaid : Prop := lineExpiresRow.holds Try.pinned (OpenSpec.ofChange lineExpiresSpec)

/-- ITS FALSE NEIGHBOUR: 'it returns false'. Refute it at one input. -/
def lineExpiresWrong : ChangeSpec := { name := "lineExpires", fn := fun _ => fun
  | [d1, d2, d3, d4] => { results := [.lit (.bool false)], args := [d1, d2, d3, d4] }
  | _ => none }
def LineExpiresWrongFalsely : Prop := lineExpiresRow.holds Try.pinned (OpenSpec.ofChange lineExpiresWrong)

/-- 'suzerainlaw.BankMoves': WHATEVER THE INPUT: true; the input reads as it did. -/
def bankMovesSpec : ChangeSpec := { name := "bankMoves", fn := fun _ => fun
  | [d1, d2, d3, d4] => { results := [.lit (.bool true)], args := [d1, d2, d3, d4] }
  | _ => none }
def bankMovesRow : OpenClaim := { program := "ytfmcmcbckhmfaaa", sum := "e18df0c0b19784cd5865396f52e2d6f4dcd1a083f19f46fdb1521cf32adbbfe8", func := "suzerain/suzerainlaw.BankMoves", spec := "bankMoves", unfollowed := true, recurses := true, apart := false }
def BankMovesSaid : Prop := bankMovesRow.holds Try.pinned (OpenSpec.ofChange bankMovesSpec)

/-- ITS FALSE NEIGHBOUR: 'it returns false'. Refute it at one input. -/
def bankMovesWrong : ChangeSpec := { name := "bankMoves", fn := fun _ => fun
  | [d1, d2, d3, d4] => { results := [.lit (.bool false)], args := [d1, d2, d3, d4] }
  | _ => none }
def BankMovesWrongFalsely : Prop := bankMovesRow.holds Try.pinned (OpenSpec.ofChange bankMovesWrong)

/-- 'suzerainkeep.BankKeeps': WHATEVER THE INPUT: true; the input reads as it did. -/
def bankKeepsSpec : ChangeSpec := { name := "bankKeeps", fn := fun _ => fun
  | [d1, d2, d3, d4] => { results := [.lit (.bool true)], args := [d1, d2, d3, d4] }
  | _ => none }
def bankKeepsRow : OpenClaim := { program := "ytfmcmcbckhmfaaa", sum := "e18df0c0b19784cd5865396f52e2d6f4dcd1a083f19f46fdb1521cf32adbbfe8", func := "suzerain/suzerainkeep.BankKeeps", spec := "bankKeeps", unfollowed := true, recurses := true, apart := false }
def BankKeepsSaid : Prop := bankKeepsRow.holds Try.pinned (OpenSpec.ofChange bankKeepsSpec)

/-- ITS FALSE NEIGHBOUR: 'it returns false'. Refute it at one input. -/
def bankKeepsWrong : ChangeSpec := { name := "bankKeeps", fn := fun _ => fun
  | [d1, d2, d3, d4] => { results := [.lit (.bool false)], args := [d1, d2, d3, d4] }
  | _ => none }
def BankKeepsWrongFalsely : Prop := bankKeepsRow.holds Try.pinned (OpenSpec.ofChange bankKeepsWrong)

/-- 'suzerainkeep.LineEither': WHATEVER THE INPUT: true; the input reads as it did. -/
def lineEitherSpec : ChangeSpec := { name := "lineEither", fn := fun _ => fun
  | [d1, d2, d3, d4, d5, d6] => { results := [.lit (.bool true)], args := [d1, d2, d3, d4, d5, d6] }
  | _ => none }
def lineEitherRow : OpenClaim := { program := "ytfmcmcbckhmfaaa", sum := "e18df0c0b19784cd5865396f52e2d6f4dcd1a083f19f46fdb1521cf32adbbfe8", func := "suzerain/suzerainkeep.LineEither", spec := "lineEither", unfollowed := true, recurses := true, apart := false }
def LineEitherSaid : Prop := lineEitherRow.holds Try.pinned (OpenSpec.ofChange lineEitherSpec)

/-- ITS FALSE NEIGHBOUR: 'it returns false'. Refute it at one input. -/
def lineEitherWrong : ChangeSpec := { name := "lineEither", fn := fun _ => fun
  | [d1, d2, d3, d4, d5, d6] => { results := [.lit (.bool false)], args := [d1, d2, d3, d4, d5, d6] }
  | _ => none }
def LineEitherWrongFalsely : Prop := lineEitherRow.holds Try.pinned (OpenSpec.ofChange lineEitherWrong)

/-- 'suzerainkeep.LinePlays': WHATEVER THE INPUT: true; the input reads as it did. -/
def linePlaysSpec : ChangeSpec := { name := "linePlays", fn := fun _ => fun
  | [d] => { results := [.lit (.bool true)], args := [d] }
  | _ => none }
def linePlaysRow : OpenClaim := { program := "ytfmcmcbckhmfaaa", sum := "e18df0c0b19784cd5865396f52e2d6f4dcd1a083f19f46fdb1521cf32adbbfe8", func := "suzerain/suzerainkeep.LinePlays", spec := "linePlays", unfollowed := true, recurses := true, apart := false }
def LinePlaysSaid : Prop := linePlaysRow.holds Try.pinned (OpenSpec.ofChange linePlaysSpec)

/-- ITS FALSE NEIGHBOUR: 'it returns false'. Refute it at one input. -/
def linePlaysWrong : ChangeSpec := { name := "linePlays", fn := fun _ => fun
  | [d] => { results := [.lit (.bool false)], args := [d] }
  | _ => none }
def LinePlaysWrongFalsely : Prop := linePlaysRow.holds Try.pinned (OpenSpec.ofChange linePlaysWrong)

/-- 'suzerainlaw.CodecDecodes': WHATEVER THE INPUT: true; the input reads as it did. -/
def codecDecodesSpec : ChangeSpec := { name := "codecDecodes", fn := fun _ => fun
  | [d] => { results := [.lit (.bool true)], args := [d] }
  | _ => none }
def codecDecodesRow : OpenClaim := { program := "ytfmcmcbckhmfaaa", sum := "e18df0c0b19784cd5865396f52e2d6f4dcd1a083f19f46fdb1521cf32adbbfe8", func := "suzerain/suzerainlaw.CodecDecodes", spec := "codecDecodes", apart := false }
def CodecDecodesSaid : Prop := codecDecodesRow.holds Try.pinned (OpenSpec.ofChange codecDecodesSpec)

/-- ITS FALSE NEIGHBOUR: 'it returns false'. Refute it at one input. -/
def codecDecodesWrong : ChangeSpec := { name := "codecDecodes", fn := fun _ => fun
  | [d] => { results := [.lit (.bool false)], args := [d] }
  | _ => none }
def CodecDecodesWrongFalsely : Prop := codecDecodesRow.holds Try.pinned (OpenSpec.ofChange codecDecodesWrong)

/-- 'suzerainkeep.CodecBack': WHATEVER THE INPUT: true; the input reads as it did. -/
def codecBackSpec : ChangeSpec := { name := "codecBack", fn := fun _ => fun
  | [d] => { results := [.lit (.bool true)], args := [d] }
  | _ => none }
def codecBackRow : OpenClaim := { program := "ytfmcmcbckhmfaaa", sum := "e18df0c0b19784cd5865396f52e2d6f4dcd1a083f19f46fdb1521cf32adbbfe8", func := "suzerain/suzerainkeep.CodecBack", spec := "codecBack", apart := false }
def CodecBackSaid : Prop := codecBackRow.holds Try.pinned (OpenSpec.ofChange codecBackSpec)

/-- ITS FALSE NEIGHBOUR: 'it returns false'. Refute it at one input. -/
def codecBackWrong : ChangeSpec := { name := "codecBack", fn := fun _ => fun
  | [d] => { results := [.lit (.bool false)], args := [d] }
  | _ => none }
def CodecBackWrongFalsely : Prop := codecBackRow.holds Try.pinned (OpenSpec.ofChange codecBackWrong)

/-- 'suzerainkeep.CodecOnly': WHATEVER THE INPUT: true; the input reads as it did. -/
def codecOnlySpec : ChangeSpec := { name := "codecOnly", fn := fun _ => fun
  | [d] => { results := [.lit (.bool true)], args := [d] }
  | _ => none }
def codecOnlyRow : OpenClaim := { program := "ytfmcmcbckhmfaaa", sum := "e18df0c0b19784cd5865396f52e2d6f4dcd1a083f19f46fdb1521cf32adbbfe8", func := "suzerain/suzerainkeep.CodecOnly", spec := "codecOnly", apart := false }
def CodecOnlySaid : Prop := codecOnlyRow.holds Try.pinned (OpenSpec.ofChange codecOnlySpec)

/-- ITS FALSE NEIGHBOUR: 'it returns false'. Refute it at one input. -/
def codecOnlyWrong : ChangeSpec := { name := "codecOnly", fn := fun _ => fun
  | [d] => { results := [.lit (.bool false)], args := [d] }
  | _ => none }
def CodecOnlyWrongFalsely : Prop := codecOnlyRow.holds Try.pinned (OpenSpec.ofChange codecOnlyWrong)

/-- 'suzerainkeep.CodecCut': WHATEVER THE INPUT: true; the input reads as it did. -/
def codecCutSpec : ChangeSpec := { name := "codecCut", fn := fun _ => fun
  | [d1, d2] => { results := [.lit (.bool true)], args := [d1, d2] }
  | _ => none }
def codecCutRow : OpenClaim := { program := "ytfmcmcbckhmfaaa", sum := "e18df0c0b19784cd5865396f52e2d6f4dcd1a083f19f46fdb1521cf32adbbfe8", func := "suzerain/suzerainkeep.CodecCut", spec := "codecCut", apart := false }
def CodecCutSaid : Prop := codecCutRow.holds Try.pinned (OpenSpec.ofChange codecCutSpec)

/-- ITS FALSE NEIGHBOUR: 'it returns false'. Refute it at one input. -/
def codecCutWrong : ChangeSpec := { name := "codecCut", fn := fun _ => fun
  | [d1, d2] => { results := [.lit (.bool false)], args := [d1, d2] }
  | _ => none }
def CodecCutWrongFalsely : Prop := codecCutRow.holds Try.pinned (OpenSpec.ofChange codecCutWrong)

/-- 'suzerainkeep.RatioRises': WHATEVER THE INPUT: true; the input reads as it did. -/
def ratioRisesSpec : ChangeSpec := { name := "ratioRises", fn := fun _ => fun
  | [d1, d2, d3, d4] => { results := [.lit (.bool true)], args := [d1, d2, d3, d4] }
  | _ => none }
def ratioRisesRow : OpenClaim := { program := "ytfmcmcbckhmfaaa", sum := "e18df0c0b19784cd5865396f52e2d6f4dcd1a083f19f46fdb1521cf32adbbfe8", func := "suzerain/suzerainkeep.RatioRises", spec := "ratioRises", named := ["math/bits.divideError", "math/bits.overflowError"], apart := false }
def RatioRisesSaid : Prop := ratioRisesRow.holds Try.pinned (OpenSpec.ofChange ratioRisesSpec)

/-- ITS FALSE NEIGHBOUR: 'it returns false'. Refute it at one input. -/
def ratioRisesWrong : ChangeSpec := { name := "ratioRises", fn := fun _ => fun
  | [d1, d2, d3, d4] => { results := [.lit (.bool false)], args := [d1, d2, d3, d4] }
  | _ => none }
def RatioRisesWrongFalsely : Prop := ratioRisesRow.holds Try.pinned (OpenSpec.ofChange ratioRisesWrong)

/-- 'suzerainlaw.RatioDivides': WHATEVER THE INPUT: true; the input reads as it did. -/
def ratioDividesSpec : ChangeSpec := { name := "ratioDivides", fn := fun _ => fun
  | [d1, d2, d3] => { results := [.lit (.bool true)], args := [d1, d2, d3] }
  | _ => none }
def ratioDividesRow : OpenClaim := { program := "ytfmcmcbckhmfaaa", sum := "e18df0c0b19784cd5865396f52e2d6f4dcd1a083f19f46fdb1521cf32adbbfe8", func := "suzerain/suzerainlaw.RatioDivides", spec := "ratioDivides", named := ["math/bits.divideError", "math/bits.overflowError"], apart := false }
def RatioDividesSaid : Prop := ratioDividesRow.holds Try.pinned (OpenSpec.ofChange ratioDividesSpec)

/-- ITS FALSE NEIGHBOUR: 'it returns false'. Refute it at one input. -/
def ratioDividesWrong : ChangeSpec := { name := "ratioDivides", fn := fun _ => fun
  | [d1, d2, d3] => { results := [.lit (.bool false)], args := [d1, d2, d3] }
  | _ => none }
def RatioDividesWrongFalsely : Prop := ratioDividesRow.holds Try.pinned (OpenSpec.ofChange ratioDividesWrong)

/-- 'suzerainkeep.RatioBounds': WHATEVER THE INPUT: true; the input reads as it did. -/
def ratioBoundsSpec : ChangeSpec := { name := "ratioBounds", fn := fun _ => fun
  | [d1, d2, d3] => { results := [.lit (.bool true)], args := [d1, d2, d3] }
  | _ => none }
def ratioBoundsRow : OpenClaim := { program := "ytfmcmcbckhmfaaa", sum := "e18df0c0b19784cd5865396f52e2d6f4dcd1a083f19f46fdb1521cf32adbbfe8", func := "suzerain/suzerainkeep.RatioBounds", spec := "ratioBounds", named := ["math/bits.divideError", "math/bits.overflowError"], apart := false }
def RatioBoundsSaid : Prop := ratioBoundsRow.holds Try.pinned (OpenSpec.ofChange ratioBoundsSpec)

/-- ITS FALSE NEIGHBOUR: 'it returns false'. Refute it at one input. -/
def ratioBoundsWrong : ChangeSpec := { name := "ratioBounds", fn := fun _ => fun
  | [d1, d2, d3] => { results := [.lit (.bool false)], args := [d1, d2, d3] }
  | _ => none }
def RatioBoundsWrongFalsely : Prop := ratioBoundsRow.holds Try.pinned (OpenSpec.ofChange ratioBoundsWrong)

/-- 'suzerainlaw.RatioParts': WHATEVER THE INPUT: true; the input reads as it did. -/
def ratioPartsSpec : ChangeSpec := { name := "ratioParts", fn := fun _ => fun
  | [d1, d2] => { results := [.lit (.bool true)], args := [d1, d2] }
  | _ => none }
def ratioPartsRow : OpenClaim := { program := "ytfmcmcbckhmfaaa", sum := "e18df0c0b19784cd5865396f52e2d6f4dcd1a083f19f46fdb1521cf32adbbfe8", func := "suzerain/suzerainlaw.RatioParts", spec := "ratioParts", named := ["math/bits.divideError", "math/bits.overflowError"], apart := false }
def RatioPartsSaid : Prop := ratioPartsRow.holds Try.pinned (OpenSpec.ofChange ratioPartsSpec)

/-- ITS FALSE NEIGHBOUR: 'it returns false'. Refute it at one input. -/
def ratioPartsWrong : ChangeSpec := { name := "ratioParts", fn := fun _ => fun
  | [d1, d2] => { results := [.lit (.bool false)], args := [d1, d2] }
  | _ => none }
def RatioPartsWrongFalsely : Prop := ratioPartsRow.holds Try.pinned (OpenSpec.ofChange ratioPartsWrong)

/-- 'suzerainkeep.RatioSplit': WHATEVER THE INPUT: true; the input reads as it did. -/
def ratioSplitSpec : ChangeSpec := { name := "ratioSplit", fn := fun _ => fun
  | [d1, d2] => { results := [.lit (.bool true)], args := [d1, d2] }
  | _ => none }
def ratioSplitRow : OpenClaim := { program := "ytfmcmcbckhmfaaa", sum := "e18df0c0b19784cd5865396f52e2d6f4dcd1a083f19f46fdb1521cf32adbbfe8", func := "suzerain/suzerainkeep.RatioSplit", spec := "ratioSplit", named := ["math/bits.divideError", "math/bits.overflowError"], apart := false }
def RatioSplitSaid : Prop := ratioSplitRow.holds Try.pinned (OpenSpec.ofChange ratioSplitSpec)

/-- ITS FALSE NEIGHBOUR: 'it returns false'. Refute it at one input. -/
def ratioSplitWrong : ChangeSpec := { name := "ratioSplit", fn := fun _ => fun
  | [d1, d2] => { results := [.lit (.bool false)], args := [d1, d2] }
  | _ => none }
def RatioSplitWrongFalsely : Prop := ratioSplitRow.holds Try.pinned (OpenSpec.ofChange ratioSplitWrong)

/- THE SECOND FORM. 'bulk': how many values and letters a reading holds, each counted each time it is reached (what is shared counts as often as it is met; a slice's spare places count too). A statement '..UptoSaid' is the law's where the arguments, and the package variables that the reading takes, are together of bulk at most 1048576: NARROWER than '..Said'. Prove '..Said' where nothing that the law and all that it calls make is longer than what came in: it says more and counts as full. Else prove '..UptoSaid'. A law counts once. -/
mutual
def uptoBulk {H : Type} : DataW H → Nat
  | .lit (.string bytes) => bytes.length + 1
  | .lit _ => 1
  | .nil => 1
  | .ptr d => uptoBulk d + 1
  | .slice elems spare => uptoBulkAll elems + uptoBulkAll spare + 1
  | .agg parts => uptoBulkAll parts + 1
  | .iface _ d => uptoBulk d + 1
  | .map entries => uptoBulkEntries entries + 1
  | .held _ => 1
def uptoBulkAll {H : Type} : List (DataW H) → Nat
  | [] => 0
  | d :: r => uptoBulk d + uptoBulkAll r
def uptoBulkEntries {H : Type} : List (Lit × DataW H) → Nat
  | [] => 0
  | x :: r => uptoBulkEntry x + uptoBulkEntries r
def uptoBulkEntry {H : Type} : Lit × DataW H → Nat
  | (.string bytes, d) => bytes.length + uptoBulk d + 1
  | (_, d) => uptoBulk d + 1
 end
def uptoSmall : (H : Type) → List (DataW H) → Bool := fun _ ds => decide (uptoBulkAll ds ≤ 1048576)
def OpenSpec.upto (s : _root_.Go.ChangeSpec) : _root_.Go.OpenSpec := { _root_.Go.OpenSpec.ofChange s with cond := some uptoSmall }

/-- 'suzerainlaw.Names', WHERE WHAT IT READS IS OF BULK AT MOST 1048576: true; the input reads as it did. -/
def namesUptoRow : OpenClaim := { program := "ytfmcmcbckhmfaaa", sum := "e18df0c0b19784cd5865396f52e2d6f4dcd1a083f19f46fdb1521cf32adbbfe8", func := "suzerain/suzerainlaw.Names", spec := "names", apart := false, narrowed := true }
def NamesUptoSaid : Prop := namesUptoRow.holds Try.pinned (OpenSpec.upto namesSpec)

/-- 'suzerainlaw.MeterTicks', WHERE WHAT IT READS IS OF BULK AT MOST 1048576: true; the input reads as it did. -/
def meterTicksUptoRow : OpenClaim := { program := "ytfmcmcbckhmfaaa", sum := "e18df0c0b19784cd5865396f52e2d6f4dcd1a083f19f46fdb1521cf32adbbfe8", func := "suzerain/suzerainlaw.MeterTicks", spec := "meterTicks", apart := false, narrowed := true }
def MeterTicksUptoSaid : Prop := meterTicksUptoRow.holds Try.pinned (OpenSpec.upto meterTicksSpec)

/-- 'suzerainkeep.MeterBounds', WHERE WHAT IT READS IS OF BULK AT MOST 1048576: true; the input reads as it did. -/
def meterBoundsUptoRow : OpenClaim := { program := "ytfmcmcbckhmfaaa", sum := "e18df0c0b19784cd5865396f52e2d6f4dcd1a083f19f46fdb1521cf32adbbfe8", func := "suzerain/suzerainkeep.MeterBounds", spec := "meterBounds", apart := false, narrowed := true }
def MeterBoundsUptoSaid : Prop := meterBoundsUptoRow.holds Try.pinned (OpenSpec.upto meterBoundsSpec)

/-- 'suzerainlaw.LineSays', WHERE WHAT IT READS IS OF BULK AT MOST 1048576: true; the input reads as it did. -/
def lineSaysUptoRow : OpenClaim := { program := "ytfmcmcbckhmfaaa", sum := "e18df0c0b19784cd5865396f52e2d6f4dcd1a083f19f46fdb1521cf32adbbfe8", func := "suzerain/suzerainlaw.LineSays", spec := "lineSays", unfollowed := true, recurses := true, apart := false, narrowed := true }
def LineSaysUptoSaid : Prop := lineSaysUptoRow.holds Try.pinned (OpenSpec.upto lineSaysSpec)

/-- 'suzerainlaw.CodecEncodes', WHERE WHAT IT READS IS OF BULK AT MOST 1048576: true; the input reads as it did. -/
def codecEncodesUptoRow : OpenClaim := { program := "ytfmcmcbckhmfaaa", sum := "e18df0c0b19784cd5865396f52e2d6f4dcd1a083f19f46fdb1521cf32adbbfe8", func := "suzerain/suzerainlaw.CodecEncodes", spec := "codecEncodes", apart := false, narrowed := true }
def CodecEncodesUptoSaid : Prop := codecEncodesUptoRow.holds Try.pinned (OpenSpec.upto codecEncodesSpec)

/-- 'suzerainkeep.CodecApart', WHERE WHAT IT READS IS OF BULK AT MOST 1048576: true; the input reads as it did. -/
def codecApartUptoRow : OpenClaim := { program := "ytfmcmcbckhmfaaa", sum := "e18df0c0b19784cd5865396f52e2d6f4dcd1a083f19f46fdb1521cf32adbbfe8", func := "suzerain/suzerainkeep.CodecApart", spec := "codecApart", apart := false, narrowed := true }
def CodecApartUptoSaid : Prop := codecApartUptoRow.holds Try.pinned (OpenSpec.upto codecApartSpec)

/-- 'suzerainkeep.BankRound', WHERE WHAT IT READS IS OF BULK AT MOST 1048576: true; the input reads as it did. -/
def bankRoundUptoRow : OpenClaim := { program := "ytfmcmcbckhmfaaa", sum := "e18df0c0b19784cd5865396f52e2d6f4dcd1a083f19f46fdb1521cf32adbbfe8", func := "suzerain/suzerainkeep.BankRound", spec := "bankRound", unfollowed := true, recurses := true, apart := false, narrowed := true }
def BankRoundUptoSaid : Prop := bankRoundUptoRow.holds Try.pinned (OpenSpec.upto bankRoundSpec)

/-- 'suzerainlaw.LineDelivers', WHERE WHAT IT READS IS OF BULK AT MOST 1048576: true; the input reads as it did. -/
def lineDeliversUptoRow : OpenClaim := { program := "ytfmcmcbckhmfaaa", sum := "e18df0c0b19784cd5865396f52e2d6f4dcd1a083f19f46fdb1521cf32adbbfe8", func := "suzerain/suzerainlaw.LineDelivers", spec := "lineDelivers", unfollowed := true, recurses := true, apart := false, narrowed := true }
def LineDeliversUptoSaid : Prop := lineDeliversUptoRow.holds Try.pinned (OpenSpec.upto lineDeliversSpec)

/-- 'suzerainlaw.LineExpires', WHERE WHAT IT READS IS OF BULK AT MOST 1048576: true; the input reads as it did. -/
def lineExpiresUptoRow : OpenClaim := { program := "ytfmcmcbckhmfaaa", sum := "e18df0c0b19784cd5865396f52e2d6f4dcd1a083f19f46fdb1521cf32adbbfe8", func := "suzerain/suzerainlaw.LineExpires", spec := "lineExpires", unfollowed := true, recurses := true, apart := false, narrowed := true }
def LineExpiresUptoSaid : Prop := lineExpiresUptoRow.holds Try.pinned (OpenSpec.upto lineExpiresSpec)

/-- 'suzerainlaw.BankMoves', WHERE WHAT IT READS IS OF BULK AT MOST 1048576: true; the input reads as it did. -/
def bankMovesUptoRow : OpenClaim := { program := "ytfmcmcbckhmfaaa", sum := "e18df0c0b19784cd5865396f52e2d6f4dcd1a083f19f46fdb1521cf32adbbfe8", func := "suzerain/suzerainlaw.BankMoves", spec := "bankMoves", unfollowed := true, recurses := true, apart := false, narrowed := true }
def BankMovesUptoSaid : Prop := bankMovesUptoRow.holds Try.pinned (OpenSpec.upto bankMovesSpec)

/-- 'suzerainkeep.BankKeeps', WHERE WHAT IT READS IS OF BULK AT MOST 1048576: true; the input reads as it did. -/
def bankKeepsUptoRow : OpenClaim := { program := "ytfmcmcbckhmfaaa", sum := "e18df0c0b19784cd5865396f52e2d6f4dcd1a083f19f46fdb1521cf32adbbfe8", func := "suzerain/suzerainkeep.BankKeeps", spec := "bankKeeps", unfollowed := true, recurses := true, apart := false, narrowed := true }
def BankKeepsUptoSaid : Prop := bankKeepsUptoRow.holds Try.pinned (OpenSpec.upto bankKeepsSpec)

/-- 'suzerainkeep.LineEither', WHERE WHAT IT READS IS OF BULK AT MOST 1048576: true; the input reads as it did. -/
def lineEitherUptoRow : OpenClaim := { program := "ytfmcmcbckhmfaaa", sum := "e18df0c0b19784cd5865396f52e2d6f4dcd1a083f19f46fdb1521cf32adbbfe8", func := "suzerain/suzerainkeep.LineEither", spec := "lineEither", unfollowed := true, recurses := true, apart := false, narrowed := true }
def LineEitherUptoSaid : Prop := lineEitherUptoRow.holds Try.pinned (OpenSpec.upto lineEitherSpec)

/-- 'suzerainkeep.LinePlays', WHERE WHAT IT READS IS OF BULK AT MOST 1048576: true; the input reads as it did. -/
def linePlaysUptoRow : OpenClaim := { program := "ytfmcmcbckhmfaaa", sum := "e18df0c0b19784cd5865396f52e2d6f4dcd1a083f19f46fdb1521cf32adbbfe8", func := "suzerain/suzerainkeep.LinePlays", spec := "linePlays", unfollowed := true, recurses := true, apart := false, narrowed := true }
def LinePlaysUptoSaid : Prop := linePlaysUptoRow.holds Try.pinned (OpenSpec.upto linePlaysSpec)

/-- 'suzerainlaw.CodecDecodes', WHERE WHAT IT READS IS OF BULK AT MOST 1048576: true; the input reads as it did. -/
def codecDecodesUptoRow : OpenClaim := { program := "ytfmcmcbckhmfaaa", sum := "e18df0c0b19784cd5865396f52e2d6f4dcd1a083f19f46fdb1521cf32adbbfe8", func := "suzerain/suzerainlaw.CodecDecodes", spec := "codecDecodes", apart := false, narrowed := true }
def CodecDecodesUptoSaid : Prop := codecDecodesUptoRow.holds Try.pinned (OpenSpec.upto codecDecodesSpec)

/-- 'suzerainkeep.CodecBack', WHERE WHAT IT READS IS OF BULK AT MOST 1048576: true; the input reads as it did. -/
def codecBackUptoRow : OpenClaim := { program := "ytfmcmcbckhmfaaa", sum := "e18df0c0b19784cd5865396f52e2d6f4dcd1a083f19f46fdb1521cf32adbbfe8", func := "suzerain/suzerainkeep.CodecBack", spec := "codecBack", apart := false, narrowed := true }
def CodecBackUptoSaid : Prop := codecBackUptoRow.holds Try.pinned (OpenSpec.upto codecBackSpec)

/-- 'suzerainkeep.CodecOnly', WHERE WHAT IT READS IS OF BULK AT MOST 1048576: true; the input reads as it did. -/
def codecOnlyUptoRow : OpenClaim := { program := "ytfmcmcbckhmfaaa", sum := "e18df0c0b19784cd5865396f52e2d6f4dcd1a083f19f46fdb1521cf32adbbfe8", func := "suzerain/suzerainkeep.CodecOnly", spec := "codecOnly", apart := false, narrowed := true }
def CodecOnlyUptoSaid : Prop := codecOnlyUptoRow.holds Try.pinned (OpenSpec.upto codecOnlySpec)

/-- 'suzerainkeep.CodecCut', WHERE WHAT IT READS IS OF BULK AT MOST 1048576: true; the input reads as it did. -/
def codecCutUptoRow : OpenClaim := { program := "ytfmcmcbckhmfaaa", sum := "e18df0c0b19784cd5865396f52e2d6f4dcd1a083f19f46fdb1521cf32adbbfe8", func := "suzerain/suzerainkeep.CodecCut", spec := "codecCut", apart := false, narrowed := true }
def CodecCutUptoSaid : Prop := codecCutUptoRow.holds Try.pinned (OpenSpec.upto codecCutSpec)

/-- 'suzerainkeep.RatioRises', WHERE WHAT IT READS IS OF BULK AT MOST 1048576: true; the input reads as it did. -/
def ratioRisesUptoRow : OpenClaim := { program := "ytfmcmcbckhmfaaa", sum := "e18df0c0b19784cd5865396f52e2d6f4dcd1a083f19f46fdb1521cf32adbbfe8", func := "suzerain/suzerainkeep.RatioRises", spec := "ratioRises", named := ["math/bits.divideError", "math/bits.overflowError"], apart := false, narrowed := true }
def RatioRisesUptoSaid : Prop := ratioRisesUptoRow.holds Try.pinned (OpenSpec.upto ratioRisesSpec)

/-- 'suzerainlaw.RatioDivides', WHERE WHAT IT READS IS OF BULK AT MOST 1048576: true; the input reads as it did. -/
def ratioDividesUptoRow : OpenClaim := { program := "ytfmcmcbckhmfaaa", sum := "e18df0c0b19784cd5865396f52e2d6f4dcd1a083f19f46fdb1521cf32adbbfe8", func := "suzerain/suzerainlaw.RatioDivides", spec := "ratioDivides", named := ["math/bits.divideError", "math/bits.overflowError"], apart := false, narrowed := true }
def RatioDividesUptoSaid : Prop := ratioDividesUptoRow.holds Try.pinned (OpenSpec.upto ratioDividesSpec)

/-- 'suzerainkeep.RatioBounds', WHERE WHAT IT READS IS OF BULK AT MOST 1048576: true; the input reads as it did. -/
def ratioBoundsUptoRow : OpenClaim := { program := "ytfmcmcbckhmfaaa", sum := "e18df0c0b19784cd5865396f52e2d6f4dcd1a083f19f46fdb1521cf32adbbfe8", func := "suzerain/suzerainkeep.RatioBounds", spec := "ratioBounds", named := ["math/bits.divideError", "math/bits.overflowError"], apart := false, narrowed := true }
def RatioBoundsUptoSaid : Prop := ratioBoundsUptoRow.holds Try.pinned (OpenSpec.upto ratioBoundsSpec)

/-- 'suzerainlaw.RatioParts', WHERE WHAT IT READS IS OF BULK AT MOST 1048576: true; the input reads as it did. -/
def ratioPartsUptoRow : OpenClaim := { program := "ytfmcmcbckhmfaaa", sum := "e18df0c0b19784cd5865396f52e2d6f4dcd1a083f19f46fdb1521cf32adbbfe8", func := "suzerain/suzerainlaw.RatioParts", spec := "ratioParts", named := ["math/bits.divideError", "math/bits.overflowError"], apart := false, narrowed := true }
def RatioPartsUptoSaid : Prop := ratioPartsUptoRow.holds Try.pinned (OpenSpec.upto ratioPartsSpec)

/-- 'suzerainkeep.RatioSplit', WHERE WHAT IT READS IS OF BULK AT MOST 1048576: true; the input reads as it did. -/
def ratioSplitUptoRow : OpenClaim := { program := "ytfmcmcbckhmfaaa", sum := "e18df0c0b19784cd5865396f52e2d6f4dcd1a083f19f46fdb1521cf32adbbfe8", func := "suzerain/suzerainkeep.RatioSplit", spec := "ratioSplit", named := ["math/bits.divideError", "math/bits.overflowError"], apart := false, narrowed := true }
def RatioSplitUptoSaid : Prop := ratioSplitUptoRow.holds Try.pinned (OpenSpec.upto ratioSplitSpec)

end Rows
end Go.Proofs.Ytfmcmcbckhmfaaa
