/-
  Facts of the program.
-/
import Derived.ProofKit
import Derived.Test.YtiacgjebngnddaaGreatRows
namespace Go.Proofs.YtiacgjebngnddaaGreat.Facts
theorem mix:Tryz.prog.follows .mixedOrders=true:=by kernel_rfl
theorem own:ownKnob Tryz.prog.godebug=none:=by kernel_rfl
theorem laid:laidOutB Tryz.prog=true:=by kernel_rfl
theorem maps:mapsRowed Tryz.prog=true:=by kernel_rfl
theorem stops:Tryz.prog.stops=[]:=by kernel_rfl
theorem stopKnobs:Tryz.prog.stopKnobs=[]:=by kernel_rfl
theorem heard:Tryz.prog.stopsHeard=true:=by kernel_rfl
theorem plainKeys:Tryz.prog.plainKeys=Rows.topSetsRow.plainKeys:=by kernel_rfl
theorem mayEnter:Tryz.prog.mayEnter=true:=by kernel_rfl
theorem lifts:Tryz.prog.liftsFinal=Rows.topSetsRow.lifted:=by kernel_rfl
theorem make:Tryz.prog.make=some Rows.topSetsRow.make:=by kernel_rfl
end Go.Proofs.YtiacgjebngnddaaGreat.Facts
