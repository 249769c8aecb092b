/-
  The walk over abstract states.
-/
import Derived.WalkKit
namespace Go.Proofs.YtobfadhgiaphnaaGreat.Ab
theorem yy8 {p:Prop} {_:Decidable p}:decide p=false↔¬ p:=decide_eq_false_iff_not
theorem yy7 (a b:Bool):((a&&b)=true)=(a=true∧b=true):=Bool.and_eq_true a b
theorem yy6.{u} {α:Type u} {a b:List α}:(a++b).length=a.length+b.length:=List.length_append
theorem yy5.{u} {α:Type u} {a:α}:[a].length=1:=rfl
theorem yy4 (n:Nat):Int.toNat (n:Int)=n:=rfl
theorem yy3.{u} {α:Type u} {l:List α} {i:Nat} (h:i < l.length):l[i]?=some l[i]:=List.getElem?_eq_getElem h
theorem yy2.{u} {α:Type u} {a b:α}:(some a).getD b=a:=rfl
theorem yy1.{u} {α:Type u} (a b:α):(some a=some b)=(a=b):=Option.some.injEq a b
theorem yy0.{u} {α:Type u} (l:List α) (i:Nat) (a:α):l.getD i a=l[i]?.getD a:=List.getD_eq_getElem?_getD
open Go
set_option linter.unusedSimpArgs false
set_option linter.unusedVariables false
structure Power where
 V:Int
 N:Int
instance:Inhabited Power:=⟨⟨0,0⟩⟩
structure Packet where
 Kind:Int
 Id:Int
 V:Int
 N:Int
 Set:List Power
 Done:List Int
instance:Inhabited Packet:=⟨⟨0,0,0,0,[],[]⟩⟩
structure Wait where
 Number:Int
 D:Int
 V:Int
 Amount:Int
 Height:Int
 Due:Int
 h0:Int
 h1:Int
instance:Inhabited Wait:=⟨⟨0,0,0,0,0,0,0,0⟩⟩
structure Asked where
 C:Int
 P:Packet
instance:Inhabited Asked:=⟨⟨0,default⟩⟩
structure Ripe where
 Id:Int
 Due:Int
instance:Inhabited Ripe:=⟨⟨0,0⟩⟩
structure Deed where
 Kind:Int
 C:Int
 D:Int
 V:Int
 N:Int
 Back:Bool
 Forged:Bool
instance:Inhabited Deed:=⟨⟨0,0,0,0,0,false,false⟩⟩
structure Reply where
 Code:Int
 N:Int
instance:Inhabited Reply:=⟨⟨0,0⟩⟩
structure Order where
 Kind:Int
 D:Int
 V:Int
 N:Int
 H:Int
instance:Inhabited Order:=⟨⟨0,0,0,0,0⟩⟩
structure Carry where
 Kind:Int
 K:Int
 Said:Int
 Time:Int
 S:ByteArray
instance:Inhabited Carry:=⟨⟨0,0,0,0,.empty⟩⟩
inductive Sl where
 | ints (l:List Int)
 | strs (l:List ByteArray)
 | bytes (l:List UInt8)
 | powers (l:List Power)
 | packets (l:List Packet)
 | waits (l:List Wait)
 | asked (l:List Asked)
 | ripes (l:List Ripe)
 | deeds (l:List Deed)
 | replies (l:List Reply)
 | orders (l:List Order)
 | carries (l:List Carry)
 | intss (l:List (List Int))
inductive AV where
 | any
 | val (v:Value)
 | agg (cs:List AV)
 | tup (vs:List AV)
 | sl (s:Sl)
 | own (j:Nat)
 | ptr (j off:Nat)
 | eptr (s:Sl) (k off:Nat)
 | pix (j base:Nat) (ix:List (Nat×Nat×Int)) (off:Nat)
 | rptr (j sz off:Nat) (i:Int)
 | rpix (j sz off:Nat) (i:Int) (ix:List (Nat×Nat×Int))
 | iface (T:TypeId) (j:Nat)
 | win (j off len:Nat)
 | fn (f:FuncId) (caps:List AV)
abbrev AV.i (n:Int):AV:=.val (.int .i64 n)
abbrev AV.b (x:Bool):AV:=.val (.bool x)
abbrev AV.s (x:ByteArray):AV:=.val (.string x)
def Power.cells (p:Power):List AV:=[.i p.V,.i p.N]
def Packet.cells (p:Packet):List AV:=[.i p.Kind,.i p.Id,.i p.V,.i p.N,.sl (.powers p.Set),.sl (.ints p.Done)]
def Wait.cells (x:Wait):List AV:=[.i x.Number,.i x.D,.i x.V,.i x.Amount,.i x.Height,.i x.Due,.i x.h0,.i x.h1]
def Asked.cells (x:Asked):List AV:=.i x.C::x.P.cells
def Ripe.cells (x:Ripe):List AV:=[.i x.Id,.i x.Due]
def Deed.cells (x:Deed):List AV:=[.i x.Kind,.i x.C,.i x.D,.i x.V,.i x.N,.b x.Back,.b x.Forged]
def Reply.cells (x:Reply):List AV:=[.i x.Code,.i x.N]
def Order.cells (x:Order):List AV:=[.i x.Kind,.i x.D,.i x.V,.i x.N,.i x.H]
def Carry.cells (x:Carry):List AV:=[.i x.Kind,.i x.K,.i x.Said,.i x.Time,.s x.S]
namespace Sl
def len:Sl→Nat
 | ints l=>l.length
 | strs l=>l.length
 | bytes l=>l.length
 | powers l=>l.length
 | packets l=>l.length
 | waits l=>l.length
 | asked l=>l.length
 | ripes l=>l.length
 | deeds l=>l.length
 | replies l=>l.length
 | orders l=>l.length
 | carries l=>l.length
 | intss l=>l.length
def sz:Sl→Nat
 | ints _=>1
 | strs _=>1
 | bytes _=>1
 | powers _=>2
 | packets _=>6
 | waits _=>8
 | asked _=>7
 | ripes _=>2
 | deeds _=>7
 | replies _=>2
 | orders _=>5
 | carries _=>5
 | intss _=>1
def row:Sl→Nat→List AV
 | ints l,k=>[.i (l.getD k 0)]
 | strs l,k=>[.s (l.getD k .empty)]
 | bytes l,k=>[.val (.int .u8 (l.getD k 0).toNat)]
 | powers l,k=>(l.getD k default).cells
 | packets l,k=>(l.getD k default).cells
 | waits l,k=>(l.getD k default).cells
 | asked l,k=>(l.getD k default).cells
 | ripes l,k=>(l.getD k default).cells
 | deeds l,k=>(l.getD k default).cells
 | replies l,k=>(l.getD k default).cells
 | orders l,k=>(l.getD k default).cells
 | carries l,k=>(l.getD k default).cells
 | intss l,k=>[.sl (.ints (l.getD k []))]
theorem row_length (s:Sl) (k:Nat):(s.row k).length=s.sz:=by cases s<;>rfl
def cell (s:Sl) (k c:Nat):AV:=(s.row k).getD c .any
def empty:Sl→Sl
 | ints _=>ints []
 | strs _=>strs []
 | bytes _=>bytes []
 | powers _=>powers []
 | packets _=>packets []
 | waits _=>waits []
 | asked _=>asked []
 | ripes _=>ripes []
 | deeds _=>deeds []
 | replies _=>replies []
 | orders _=>orders []
 | carries _=>carries []
 | intss _=>intss []
def app:Sl→Sl→Option Sl
 | ints l,ints m=>some (ints (l++m))
 | strs l,strs m=>some (strs (l++m))
 | bytes l,bytes m=>some (bytes (l++m))
 | powers l,powers m=>some (powers (l++m))
 | packets l,packets m=>some (packets (l++m))
 | waits l,waits m=>some (waits (l++m))
 | asked l,asked m=>some (asked (l++m))
 | ripes l,ripes m=>some (ripes (l++m))
 | deeds l,deeds m=>some (deeds (l++m))
 | replies l,replies m=>some (replies (l++m))
 | orders l,orders m=>some (orders (l++m))
 | carries l,carries m=>some (carries (l++m))
 | intss l,intss m=>some (intss (l++m))
 | _,_=>none
end Sl
def aI:AV→Option Int
 | .val (.int .i64 n)=>some n
 | _=>none
def aS:AV→Option ByteArray
 | .val (.string s)=>some s
 | _=>none
def aB:AV→Option Bool
 | .val (.bool b)=>some b
 | _=>none
def aPs:AV→Option (List Power)
 | .sl (.powers l)=>some l
 | .val (.slice none 0 0)=>some []
 | _=>none
def aIs:AV→Option (List Int)
 | .sl (.ints l)=>some l
 | .val (.slice none 0 0)=>some []
 | _=>none
