/-
  Facts on the loaded program alone, each computed once by the kernel: the heavy limbs of 'joinedFacts', which each statement's row asks again.
-/
import Derived.Test.YtbpehnghffljiaaRows
import Derived.ProofKit
namespace Go.Proofs.Ytbpehnghffljiaa.Facts
theorem mix : Try.prog.follows .mixedOrders = true := by kernel_rfl
theorem own : ownKnob Try.prog.godebug = none := by kernel_rfl
theorem laid : laidOutB Try.prog = true := by kernel_rfl
theorem maps : mapsRowed Try.prog = true := by kernel_rfl
theorem stops : Try.prog.stops = [] := by kernel_rfl
theorem stopKnobs : Try.prog.stopKnobs = [] := by kernel_rfl
theorem heard : Try.prog.stopsHeard = true := by kernel_rfl
theorem plainKeys : Try.prog.plainKeys = Rows.stakeDelegatesRow.plainKeys := by kernel_rfl
theorem mayEnter : Try.prog.mayEnter = true := by kernel_rfl
theorem lifts : Try.prog.liftsFinal = Rows.stakeDelegatesRow.lifted := by kernel_rfl
theorem make : Try.prog.make = some Rows.stakeDelegatesRow.make := by kernel_rfl
end Go.Proofs.Ytbpehnghffljiaa.Facts
