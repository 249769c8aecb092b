/-
  The structs of the program as data, and how they are read.
-/
import Derived.Test.YtfmcmcbckhmfaaaAbSpec
namespace Go.Proofs.Ytfmcmcbckhmfaaa.Ab
open Go Go.RowKit

structure Meter where
  Left : Int
  Next : Int
structure Line where
  Said : List ByteArray
  Due : List Int
  Got : Int
  Closed : Bool
structure Bank where
  f0 : Int
  f1 : Int
  f2 : Int
  f3 : Int
  Bonded : Int
  Waiting : Int
  Burnt : Int

abbrev iL : LP Int := .one intP
abbrev bL : LP Bool := .one boolP
def powerL : LP Power := (iL.seq iL).map (fun x => ⟨x.1, x.2⟩) (fun p => (p.V, p.N)) (fun _ => rfl)
def powerP : Par Power := .ofLP powerL
def packetL : LP Packet := (iL.seq (iL.seq (iL.seq (iL.seq ((LP.one powersP).seq (.one intsP)))))).map (fun x => ⟨x.1, x.2.1, x.2.2.1, x.2.2.2.1, x.2.2.2.2.1, x.2.2.2.2.2⟩)
  (fun p => (p.Kind, p.Id, p.V, p.N, p.Set, p.Done)) (fun _ => rfl)
def packetP : Par Packet := .ofLP packetL
def meterL : LP Meter := (iL.seq iL).map (fun x => ⟨x.1, x.2⟩) (fun p => (p.Left, p.Next)) (fun _ => rfl)
def meterP : Par Meter := .ofLP meterL
def lineL : LP Line := ((LP.one strsP).seq ((LP.one intsP).seq (iL.seq bL))).map (fun x => ⟨x.1, x.2.1, x.2.2.1, x.2.2.2⟩) (fun p => (p.Said, p.Due, p.Got, p.Closed)) (fun _ => rfl)
def lineP : Par Line := .ofLP lineL
def bankL : LP Bank := (iL.seq (iL.seq (iL.seq (iL.seq (iL.seq (iL.seq iL)))))).map (fun x => ⟨x.1, x.2.1, x.2.2.1, x.2.2.2.1, x.2.2.2.2.1, x.2.2.2.2.2.1, x.2.2.2.2.2.2⟩)
  (fun p => (p.f0, p.f1, p.f2, p.f3, p.Bonded, p.Waiting, p.Burnt)) (fun _ => rfl)
def bankP : Par Bank := .ofLP bankL

end Go.Proofs.Ytfmcmcbckhmfaaa.Ab
