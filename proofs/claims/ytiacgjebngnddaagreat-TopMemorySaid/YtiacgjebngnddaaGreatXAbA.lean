/-
  The walk over abstract states.
-/
import Derived.ChangeKeysEq
import Derived.Great.BuildSlice
import Derived.Laws.OwnMore
import Derived.MapKept
import Derived.Maps.AppendAt
import Derived.ProofKit
import Derived.WalkKit
namespace Go.Proofs.YtiacgjebngnddaaGreat.Ab
theorem yy8 {p:Prop} {_:Decidable p}:decide p=false↔¬ p:=decide_eq_false_iff_not
theorem yy7 (a b:Bool):((a&&b)=true)=(a=true∧b=true):=Bool.and_eq_true a b
theorem yy6.{u} {α:Type u} {a b:List α}:(a++b).length=a.length+b.length:=List.length_append
theorem yy5.{u} {α:Type u} {a:α}:[a].length=1:=rfl
theorem yy4 (n:Nat):Int.toNat (n:Int)=n:=rfl
theorem yy3.{u} {α:Type u} {l:List α} {i:Nat} (h:i < l.length):l[i]?=some l[i]:=List.getElem?_eq_getElem h
theorem yy2.{u} {α:Type u} {a b:α}:(some a).getD b=a:=rfl
theorem yy1.{u} {α:Type u} (a b:α):(some a=some b)=(a=b):=Option.some.injEq a b
theorem yy0.{u} {α:Type u} (l:List α) (i:Nat) (a:α):l.getD i a=l[i]?.getD a:=List.getD_eq_getElem?_getD
open Go
set_option linter.unusedSimpArgs false
set_option linter.unusedVariables false
structure Power where
 V:Int
 N:Int
instance:Inhabited Power:=⟨⟨0,0⟩⟩
structure Packet where
 Kind:Int
 Id:Int
 V:Int
 N:Int
 Set:List Power
 Done:List Int
instance:Inhabited Packet:=⟨⟨0,0,0,0,[],[]⟩⟩
structure Wait where
 Number:Int
 D:Int
 V:Int
 Amount:Int
 Height:Int
 Due:Int
 h0:Int
 h1:Int
instance:Inhabited Wait:=⟨⟨0,0,0,0,0,0,0,0⟩⟩
structure Asked where
 C:Int
 P:Packet
instance:Inhabited Asked:=⟨⟨0,default⟩⟩
structure Ripe where
 Id:Int
 Due:Int
instance:Inhabited Ripe:=⟨⟨0,0⟩⟩
structure Deed where
 Kind:Int
 C:Int
 D:Int
 V:Int
 N:Int
 Back:Bool
 Forged:Bool
instance:Inhabited Deed:=⟨⟨0,0,0,0,0,false,false⟩⟩
structure Reply where
 Code:Int
 N:Int
instance:Inhabited Reply:=⟨⟨0,0⟩⟩
structure Order where
 Kind:Int
 D:Int
 V:Int
 N:Int
 H:Int
instance:Inhabited Order:=⟨⟨0,0,0,0,0⟩⟩
structure Carry where
 Kind:Int
 K:Int
 Said:Int
 Time:Int
 S:ByteArray
instance:Inhabited Carry:=⟨⟨0,0,0,0,.empty⟩⟩
structure A6 (α:Type) where
 x0:α
 x1:α
 x2:α
 x3:α
 x4:α
 x5:α
instance {α:Type} [Inhabited α]:Inhabited (A6 α):=⟨⟨default,default,default,default,default,default⟩⟩
inductive Sl where
 | ints (l:List Int)
 | strs (l:List ByteArray)
 | bytes (l:List UInt8)
 | powers (l:List Power)
 | packets (l:List Packet)
 | waits (l:List Wait)
 | asked (l:List Asked)
 | ripes (l:List Ripe)
 | deeds (l:List Deed)
 | replies (l:List Reply)
 | orders (l:List Order)
 | carries (l:List Carry)
 | intss (l:List (List Int))
inductive Mp where
 | pows (l:List (Int×List Power))
 | nums (l:List (Int×A6 Int))
 | waits (l:List (Int×Wait))
 | flags (l:List (Int×Bool))
inductive NR where
 | whole
 | el (i:Int) (off:Nat)
 | set (i:Int)
 | ce (i k:Int) (off:Nat)
inductive AV where
 | any
 | val (v:Value)
 | agg (cs:List AV)
 | tup (vs:List AV)
 | sl (s:Sl)
 | own (j:Nat)
 | ptr (j off:Nat)
 | eptr (s:Sl) (k off:Nat)
 | pix (j base:Nat) (ix:List (Nat×Nat×Int)) (off:Nat)
 | rptr (j sz off:Nat) (i:Int)
 | rpix (j sz off:Nat) (i:Int) (ix:List (Nat×Nat×Int))
 | iface (T:TypeId) (j:Nat)
 | win (j off len:Nat)
 | fn (f:FuncId) (caps:List AV)
 | mp (m:Mp)
 | nst (j:Nat) (r:NR)
abbrev AV.i (n:Int):AV:=.val (.int .i64 n)
abbrev AV.b (x:Bool):AV:=.val (.bool x)
abbrev AV.s (x:ByteArray):AV:=.val (.string x)
def Power.cells (p:Power):List AV:=[.i p.V,.i p.N]
def Packet.cells (p:Packet):List AV:=[.i p.Kind,.i p.Id,.i p.V,.i p.N,.sl (.powers p.Set),.sl (.ints p.Done)]
def Wait.cells (x:Wait):List AV:=[.i x.Number,.i x.D,.i x.V,.i x.Amount,.i x.Height,.i x.Due,.i x.h0,.i x.h1]
def Asked.cells (x:Asked):List AV:=.i x.C::x.P.cells
def Ripe.cells (x:Ripe):List AV:=[.i x.Id,.i x.Due]
def Deed.cells (x:Deed):List AV:=[.i x.Kind,.i x.C,.i x.D,.i x.V,.i x.N,.b x.Back,.b x.Forged]
def Reply.cells (x:Reply):List AV:=[.i x.Code,.i x.N]
def Order.cells (x:Order):List AV:=[.i x.Kind,.i x.D,.i x.V,.i x.N,.i x.H]
def Carry.cells (x:Carry):List AV:=[.i x.Kind,.i x.K,.i x.Said,.i x.Time,.s x.S]
def n6A (t:A6 Int):List AV:=[.i t.x0,.i t.x1,.i t.x2,.i t.x3,.i t.x4,.i t.x5]
def Mp.ents:Mp→List (Int×AV)
 | .pows l=>l.map fun p=>(p.1,.sl (.powers p.2))
 | .nums l=>l.map fun p=>(p.1,.agg (n6A p.2))
 | .waits l=>l.map fun p=>(p.1,.agg p.2.cells)
 | .flags l=>l.map fun p=>(p.1,.b p.2)
namespace Sl
def len:Sl→Nat
 | ints l=>l.length
 | strs l=>l.length
 | bytes l=>l.length
 | powers l=>l.length
 | packets l=>l.length
 | waits l=>l.length
 | asked l=>l.length
 | ripes l=>l.length
 | deeds l=>l.length
 | replies l=>l.length
 | orders l=>l.length
 | carries l=>l.length
 | intss l=>l.length
def sz:Sl→Nat
 | ints _=>1
 | strs _=>1
 | bytes _=>1
 | powers _=>2
 | packets _=>6
 | waits _=>8
 | asked _=>7
 | ripes _=>2
 | deeds _=>7
 | replies _=>2
 | orders _=>5
 | carries _=>5
 | intss _=>1
def row:Sl→Nat→List AV
 | ints l,k=>[.i (l.getD k 0)]
 | strs l,k=>[.s (l.getD k .empty)]
 | bytes l,k=>[.val (.int .u8 (l.getD k 0).toNat)]
 | powers l,k=>(l.getD k default).cells
 | packets l,k=>(l.getD k default).cells
 | waits l,k=>(l.getD k default).cells
 | asked l,k=>(l.getD k default).cells
 | ripes l,k=>(l.getD k default).cells
 | deeds l,k=>(l.getD k default).cells
 | replies l,k=>(l.getD k default).cells
 | orders l,k=>(l.getD k default).cells
 | carries l,k=>(l.getD k default).cells
 | intss l,k=>[.sl (.ints (l.getD k []))]
theorem row_length (s:Sl) (k:Nat):(s.row k).length=s.sz:=by cases s<;>rfl
def cell (s:Sl) (k c:Nat):AV:=(s.row k).getD c .any
def empty:Sl→Sl
 | ints _=>ints []
 | strs _=>strs []
 | bytes _=>bytes []
 | powers _=>powers []
 | packets _=>packets []
 | waits _=>waits []
 | asked _=>asked []
 | ripes _=>ripes []
 | deeds _=>deeds []
 | replies _=>replies []
 | orders _=>orders []
 | carries _=>carries []
 | intss _=>intss []
def app:Sl→Sl→Option Sl
 | ints l,ints m=>some (ints (l++m))
 | strs l,strs m=>some (strs (l++m))
 | bytes l,bytes m=>some (bytes (l++m))
 | powers l,powers m=>some (powers (l++m))
 | packets l,packets m=>some (packets (l++m))
 | waits l,waits m=>some (waits (l++m))
 | asked l,asked m=>some (asked (l++m))
 | ripes l,ripes m=>some (ripes (l++m))
 | deeds l,deeds m=>some (deeds (l++m))
 | replies l,replies m=>some (replies (l++m))
 | orders l,orders m=>some (orders (l++m))
 | carries l,carries m=>some (carries (l++m))
 | intss l,intss m=>some (intss (l++m))
 | _,_=>none
end Sl
def aI:AV→Option Int
 | .val (.int .i64 n)=>some n
 | _=>none
def aS:AV→Option ByteArray
 | .val (.string s)=>some s
 | _=>none
def aB:AV→Option Bool
 | .val (.bool b)=>some b
 | _=>none
def aPs:AV→Option (List Power)
 | .sl (.powers l)=>some l
 | .val (.slice none 0 0)=>some []
 | _=>none
def aIs:AV→Option (List Int)
 | .sl (.ints l)=>some l
 | .val (.slice none 0 0)=>some []
 | _=>none
open Go Go.RowKit
structure Cx where
 w:World
 L:Nat→Prop
 nu:Nat→Option Value
def inB:List (Nat×Nat×Int)→Prop
 | []=>True
 | p::l=>(0≤p.2.2∧p.2.2 < (p.1:Int))∧inB l
def ixN:List (Nat×Nat×Int)→Nat
 | []=>0
 | p::l=>p.2.2.toNat*p.2.1+ixN l
def NRd (u:Value) (r:NR) (v:Value):Prop:=∃ v0 ws,u=.tuple #[v0,.agg ws]∧match r with
 | .whole=>v=v0
 | .el i off=>∃ g n cap,v0=.slice (some ⟨g,0,none⟩) n cap∧(0≤i∧i < (n:Int))∧v=.pointer (some ⟨g,i.toNat*6+off,none⟩)
 | .set i=>ws[i.toNat]?=some v
 | .ce i k off=>∃ g n cap,ws[i.toNat]?=some (.slice (some ⟨g,0,none⟩) n cap)∧(0≤k∧k < (n:Int))∧v=.pointer (some ⟨g,k.toNat*2+off,none⟩)
inductive Rd (C:Cx):AV→Value→Prop where
 | any {v:Value}:Rd C .any v
 | val {v:Value}:Rd C (.val v) v
 | agg {cs:List AV} {vs:List Value} (hl:vs.length=cs.length) (h:∀ i,i < cs.length→Rd C (cs.getD i .any) (vs.getD i undef)):Rd C (.agg cs) (.agg vs.toArray)
 | tup {cs:List AV} {vs:List Value} (hl:vs.length=cs.length) (h:∀ i,i < cs.length→Rd C (cs.getD i .any) (vs.getD i undef)):Rd C (.tup cs) (.tuple vs.toArray)
 | fn {f:FuncId} {cs:List AV} {vs:List Value} (hl:vs.length=cs.length) (h:∀ i,i < cs.length→Rd C (cs.getD i .any) (vs.getD i undef)):Rd C (.fn f cs) (.func (.func f) #[] vs.toArray)
 | slnil {s:Sl} (h0:s.len=0):Rd C (.sl s) (.slice none 0 0)
 | sl {s:Sl} (a:Addr) (cap:Nat) (g:Nat→Nat→Value) (hm:s.len≤maxLen) (hc:s.len≤cap)
   (hcell:∀ k c,k < s.len→c < s.sz→C.w.cell? (a.add (k*s.sz+c))=some (g k c))
   (hL:0 < s.len→¬ C.L a.block)
   (hrd:∀ k c,k < s.len→c < s.sz→Rd C (s.cell k c) (g k c)):Rd C (.sl s) (.slice (some a) s.len cap)
 | own {j:Nat} {v:Value} (h:C.nu j=some v):Rd C (.own j) v
 | ptr {j off b:Nat} (h:C.nu j=some (.pointer (some ⟨b,0,none⟩))):Rd C (.ptr j off) (.pointer (some ⟨b,off,none⟩))
 | eptr {s:Sl} {k off:Nat} (a:Addr) (g:Nat→Value) (hs:a.spot=none) (hL:off < s.sz→¬ C.L a.block)
   (hcell:∀ c,off+c < s.sz→C.w.cell? (a.add c)=some (g c))
   (hrd:∀ c,off+c < s.sz→Rd C (s.cell k (off+c)) (g c)):Rd C (.eptr s k off) (.pointer (some a))
 | pix {j base off b:Nat} {ix:List (Nat×Nat×Int)} (h:C.nu j=some (.pointer (some ⟨b,0,none⟩))) (hi:inB ix):Rd C (.pix j base ix off) (.pointer (some ⟨b,base+ixN ix+off,none⟩))
 | rptr {j sz off g n cap:Nat} {i:Int} (h:C.nu j=some (.slice (some ⟨g,0,none⟩) n cap)) (hi:0≤i∧i < (n:Int)):Rd C (.rptr j sz off i) (.pointer (some ⟨g,i.toNat*sz+off,none⟩))
 | rpix {j sz off g n cap:Nat} {i:Int} {ix:List (Nat×Nat×Int)} (h:C.nu j=some (.slice (some ⟨g,0,none⟩) n cap)) (hi:0≤i∧i < (n:Int)) (hb:inB ix):Rd C (.rpix j sz off i ix) (.pointer (some ⟨g,i.toNat*sz+off+ixN ix,none⟩))
 | iface {T:TypeId} {j:Nat} {v:Value} (h:C.nu j=some v):Rd C (.iface T j) (.iface T v)
 | win {j off len b:Nat} (h:C.nu j=some (.pointer (some ⟨b,0,none⟩))):Rd C (.win j off len) (.slice (some ⟨b,off,none⟩) len len)
 | nst {j:Nat} {r:NR} {u v:Value} (h:C.nu j=some u) (hr:NRd u r v):Rd C (.nst j r) v
structure Cx.Le (C C':Cx):Prop where
 cell:∀ a v,¬ C.L a.block→C.w.cell? a=some v→C'.w.cell? a=some v
 L:∀ a v,¬ C.L a.block→C.w.cell? a=some v→¬ C'.L a.block
 nu:∀ j v,C.nu j=some v→C'.nu j=some v
theorem Cx.Le.refl (C:Cx):C.Le C:=⟨fun _ _ _ h=>h,fun _ _ h _=>h,fun _ _ h=>h⟩
theorem Cx.Le.trans {A B D:Cx} (h:A.Le B) (k:B.Le D):A.Le D :=
 ⟨fun a v hl hc=>k.cell a v (h.L a v hl hc) (h.cell a v hl hc),fun a v hl hc=>k.L a v (h.L a v hl hc) (h.cell a v hl hc),
  fun j v hj=>k.nu j v (h.nu j v hj)⟩
theorem zan (a:Addr) (n:Nat):(a.add n).block=a.block:=by unfold Addr.add;split<;>rfl
theorem zpl (s:Sl):0 < s.sz:=by cases s<;>simp[Sl.sz]
theorem Rd.mono {C C':Cx} (hle:C.Le C') {x:AV} {v:Value} (h:Rd C x v):Rd C' x v:=by
 induction h with
 | any=>exact .any
 | val=>exact .val
 | agg hl _ ih=>exact .agg hl ih
 | tup hl _ ih=>exact .tup hl ih
 | fn hl _ ih=>exact .fn hl ih
 | slnil h0=>exact .slnil h0
 | @sl s a cap g hm hc hcell hL _ ih =>
  refine .sl a cap g hm hc (fun k c hk hcc=>hle.cell _ _ ?_ (hcell k c hk hcc)) (fun h0=>?_) ih
  ·rw[zan];exact hL (by omega)
  ·have:=hle.L _ _ (by rw[zan];exact hL h0) (hcell 0 0 h0 (zpl s))
   rwa [zan] at this
 | own h=>exact .own (hle.nu _ _ h)
 | ptr h=>exact .ptr (hle.nu _ _ h)
 | pix h hi=>exact .pix (hle.nu _ _ h) hi
 | rptr h hi=>exact .rptr (hle.nu _ _ h) hi
 | rpix h hi hb=>exact .rpix (hle.nu _ _ h) hi hb
 | iface h=>exact .iface (hle.nu _ _ h)
 | win h=>exact .win (hle.nu _ _ h)
 | nst h hr=>exact .nst (hle.nu _ _ h) hr
 | @eptr s k off a g hs hL hcell hrd ih =>
  refine .eptr a g hs (fun h0=>?_) (fun c hc=>hle.cell _ _ ?_ (hcell c hc)) ih
  ·have:=hle.L _ _ (by rw[zan];exact hL h0) (hcell 0 (by omega))
   rwa [zan] at this
  ·rw[zan];exact hL (by omega)
def Rds (C:Cx) (cs:List AV) (vs:List Value):Prop:=vs.length=cs.length∧∀ i,i < cs.length→Rd C (cs.getD i .any) (vs.getD i undef)
theorem Rds.mk {C:Cx} {cs:List AV} {vs:List Value} (hl:vs.length=cs.length) (h:∀ i,i < cs.length→Rd C (cs.getD i .any) (vs.getD i undef)):Rds C cs vs:=⟨hl,h⟩
theorem Rds.mono {C C':Cx} (hle:C.Le C') {cs:List AV} {vs:List Value} (h:Rds C cs vs):Rds C' cs vs:=⟨h.1,fun i hi=>(h.2 i hi).mono hle⟩
theorem Rds.nil {C:Cx}:Rds C [] []:=⟨rfl,fun i hi=>absurd hi (Nat.not_lt_zero i)⟩
theorem Rds.cons {C:Cx} {c:AV} {cs:List AV} {v:Value} {vs:List Value} (h:Rd C c v) (hs:Rds C cs vs):Rds C (c::cs) (v::vs):=by
 refine ⟨by simp[hs.1],fun i hi=>?_⟩
 cases i with
 | zero=>exact h
 | succ i=>exact hs.2 i (by simpa using hi)
theorem Rds.uncons {C:Cx} {c:AV} {cs:List AV} {vs:List Value} (h:Rds C (c::cs) vs):∃ v vs',vs=v::vs'∧Rd C c v∧Rds C cs vs':=by
 obtain ⟨hl,h⟩:=h
 cases vs with
 | nil=>simp at hl
 | cons v vs'=>exact ⟨v,vs',rfl,h 0 (by simp),by simpa using hl,fun i hi=>h (i+1) (by simpa using hi)⟩
theorem Rds.unnil {C:Cx} {vs:List Value} (h:Rds C [] vs):vs=[]:=List.eq_nil_of_length_eq_zero h.1
theorem Rds.get {C:Cx} {cs:List AV} {vs:List Value} (h:Rds C cs vs) (i:Nat) (c:AV) (hc:cs[i]?=some c):∃ v,vs[i]?=some v∧Rd C c v:=by
 have hi:i < cs.length:=(List.getElem?_eq_some_iff.1 hc).1
 have hv:i < vs.length:=by rw[h.1];exact hi
 refine ⟨vs[i],yy3 hv,?_⟩
 have:=h.2 i hi
 rw[yy0,hc,yy0,yy3 hv] at this
 exact this
theorem Rds.of_get {C:Cx} {cs:List AV} {vs:List Value} (hl:vs.length=cs.length) (h:∀ (i:Nat) (c:AV) (v:Value),cs[i]?=some c→vs[i]?=some v→Rd C c v):Rds C cs vs:=by
 refine ⟨hl,fun i hi=>?_⟩
 have hv:i < vs.length:=by omega
 have e1:cs.getD i .any=cs[i]:=by rw[yy0,yy3 hi];rfl
 have e2:vs.getD i undef=vs[i]:=by rw[yy0,yy3 hv];rfl
 rw[e1,e2]
 exact h i _ _ (yy3 hi) (yy3 hv)
theorem Rds.set {C:Cx} {cs:List AV} {vs:List Value} (h:Rds C cs vs) (i:Nat) {c:AV} {v:Value} (hc:Rd C c v):Rds C (cs.set i c) (vs.set i v):=by
 refine Rds.of_get (by simp[h.1]) (fun j c' v' h1 h2=>?_)
 by_cases hij:i=j
 ·subst hij
  have hi:i < cs.length:=by have:=(List.getElem?_eq_some_iff.1 h1).1;simpa using this
  rw[List.getElem?_set_self hi] at h1
  rw[List.getElem?_set_self (by rw[h.1];exact hi)] at h2
  cases h1;cases h2;exact hc
 ·rw[List.getElem?_set_ne hij] at h1 h2
  obtain ⟨u,hu,hr⟩:=h.get j c' h1
  rw[hu] at h2;cases h2;exact hr
theorem Rds.append {C:Cx} {cs ds:List AV} {vs us:List Value} (h:Rds C cs vs) (k:Rds C ds us):Rds C (cs++ds) (vs++us):=by
 refine Rds.of_get (by simp[h.1,k.1]) (fun j c v h1 h2=>?_)
 by_cases hj:j < cs.length
 ·rw[List.getElem?_append_left hj] at h1
  rw[List.getElem?_append_left (by rw[h.1];exact hj)] at h2
  obtain ⟨u,hu,hr⟩:=h.get j c h1
  rw[hu] at h2;cases h2;exact hr
 ·rw[List.getElem?_append_right (by omega)] at h1
  rw[List.getElem?_append_right (by rw[h.1];omega),h.1] at h2
  obtain ⟨u,hu,hr⟩:=k.get _ c h1
  rw[hu] at h2;cases h2;exact hr
theorem Rds.drop {C:Cx} {cs:List AV} {vs:List Value} (h:Rds C cs vs) (n:Nat):Rds C (cs.drop n) (vs.drop n):=by
 refine Rds.of_get (by simp[h.1]) (fun j c v h1 h2=>?_)
 rw[List.getElem?_drop] at h1 h2
 obtain ⟨u,hu,hr⟩:=h.get _ c h1
 rw[hu] at h2;cases h2;exact hr
theorem Rds.take {C:Cx} {cs:List AV} {vs:List Value} (h:Rds C cs vs) (n:Nat):Rds C (cs.take n) (vs.take n):=by
 refine Rds.of_get (by simp[h.1]) (fun j c v h1 h2=>?_)
 have hj:j < n:=by have:=(List.getElem?_eq_some_iff.1 h1).1;simp at this;omega
 rw[List.getElem?_take_of_lt hj] at h1 h2
 obtain ⟨u,hu,hr⟩:=h.get _ c h1
 rw[hu] at h2;cases h2;exact hr
inductive Blk where
 | dead
 | free
 | cells (T:TypeId) (cs:List AV)
 | rows (E:TypeId) (s:Sl)
 | pub (s:Sl)
 | bit (p q:Prop)
 | maps (m:Mp)
 | nest (E F:TypeId) (ex:Bool) (l:List Packet)
def Blk.live:Blk→Bool
 | .cells _ _=>true
 | .rows _ _=>true
 | .maps _=>true
 | .nest _ _ _ _=>true
 | _=>false
def zcu:Value→Option Nat
 | .pointer (some a)=>some a.block
 | .slice (some a) _ _=>some a.block
 | .map (some b)=>some b
 | _=>none
def zwe (v:Value) (b:Nat):Prop:=zcu v=some b∨∃ v0 ws,v=.tuple #[v0,.agg ws]∧(zcu v0=some b∨∃ x,x∈ws.toList∧zcu x=some b)
theorem zwf {v:Value} {b:Nat} (h:zcu v=some b):zwe v b:=.inl h
theorem hasB_ptr {a:Addr} {b:Nat}:zwe (.pointer (some a)) b↔a.block=b:=by
 constructor
 ·rintro (h | ⟨v0,ws,h,_⟩)
  ·exact Option.some.inj h
  ·cases h
 ·intro h;exact .inl (congrArg some h)
theorem hasB_sl {a:Addr} {n c b:Nat}:zwe (.slice (some a) n c) b↔a.block=b:=by
 constructor
 ·rintro (h | ⟨v0,ws,h,_⟩)
  ·exact Option.some.inj h
  ·cases h
 ·intro h;exact .inl (congrArg some h)
theorem hasB_map {r b:Nat}:zwe (.map (some r)) b↔r=b:=by
 constructor
 ·rintro (h | ⟨v0,ws,h,_⟩)
  ·exact Option.some.inj h
  ·cases h
 ·intro h;exact .inl (congrArg some h)
theorem zakf {n c b:Nat}:¬ zwe (.slice none n c) b:=by
 rintro (h | ⟨v0,ws,h,_⟩)<;>cases h
theorem zakg {w:World} {base E sz n:Nat} {v:Value} {xs:List Value} (h:w.ownsRow base E sz v n xs) {b:Nat}:zwe v b↔zcu v=some b:=by
 rcases h.2 with ⟨rfl,_⟩ | ⟨g,cap,cur,rfl,_⟩
 ·exact ⟨fun h=>absurd h zakf,fun h=>.inl h⟩
 ·rw[hasB_sl];exact ⟨congrArg some,Option.some.inj⟩
inductive SV where
 | plain (x:AV)
 | cond (t:List (Nat×Bool)) (x:AV)
def SV.boolOf:SV→Option Bool
 | .plain (.val (.bool b))=>some b
 | .cond _ (.val (.bool b))=>some b
 | _=>none
structure RSt where
 slots:List SV
 blks:List Blk
def RSt.slot (st:RSt) (d:Nat):SV:=st.slots.getD d (.plain .any)
def RSt.blk (st:RSt) (j:Nat):Blk:=st.blks.getD j .dead
def RSt.E (st:RSt) (gs:List Nat) (d:Nat):Option Bool:=if gs.contains d then (st.slot d).boolOf else none
structure Gl where
 w0:World
 L0:Nat→Prop
 A:Nat→Prop
 lt:∀ b,L0 b→b < w0.heap.size
 dis:∀ b,A b→¬ L0 b
 fix:Nat→Option Value
def zpm (blks:List Blk) (nu:Nat→Option Value) (b:Nat):Prop:=∃ j v,(blks.getD j .dead).live=true∧nu j=some v∧zwe v b
def cx (G:Gl) (blks:List Blk) (nu:Nat→Option Value) (w:World):Cx:=⟨w,fun b=>G.L0 b∨zpm blks nu b,nu⟩
def MapRd (C:Cx) (m:Mp) (es:Array MapEntry) (clock:Nat):Prop :=
 es.size=m.ents.length∧(∀ (k:Nat) (e:MapEntry) (p:Int×AV),es[k]?=some e→m.ents[k]?=some p→e.key=.int .i64 p.1∧Rd C p.2 e.val)∧MapKept.Stamped es clock
theorem MapRd.mono {C C':Cx} (hle:C.Le C') {m:Mp} {es:Array MapEntry} {clock:Nat} (h:MapRd C m es clock):MapRd C' m es clock :=
 ⟨h.1,fun k e p h1 h2=>⟨(h.2.1 k e p h1 h2).1,(h.2.1 k e p h1 h2).2.mono hle⟩,h.2.2⟩
theorem zfg {w w':World} {base E sz n:Nat} {v:Value} {xs:List Value} (h:w.ownsRow base E sz v n xs) (hb:∀ b,zcu v=some b→w'.heap[b]?=w.heap[b]?):w'.ownsRow base E sz v n xs:=by
 obtain ⟨e1,e2⟩:=h
 refine ⟨e1,?_⟩
 rcases e2 with e2 | ⟨g,cap,cur,e3,e4,e5,e6⟩
 ·exact .inl e2
 ·refine .inr ⟨g,cap,cur,e3,e4,?_,e6⟩
  rw[hb g (by rw[e3];rfl)];exact e5
structure NestOk (C:Cx) (base:Nat) (E F:TypeId) (ex:Bool) (l:List Packet) (v0:Value) (ws:Array Value) (vs:List Value):Prop where
 row:C.w.ownsRow base E 6 v0 l.length vs
 size:ws.size=l.length
 most:l.length≤maxLen
 at_:∀ (k:Nat) (p:Packet) (x:Value),l[k]?=some p→ws[k]?=some x→vs[k*6+4]?=some x ∧
  (∃ a0 a1 a2 a3:Int,(vs[k*6]?=some (.int .i64 a0)∧vs[k*6+1]?=some (.int .i64 a1)∧vs[k*6+2]?=some (.int .i64 a2)∧vs[k*6+3]?=some (.int .i64 a3))∧(ex=true→a0=p.Kind∧a1=p.Id∧a2=p.V∧a3=p.N)) ∧
  (∃ d,vs[k*6+5]?=some d∧Rd C (.sl (.ints p.Done)) d) ∧
  ∃ us,C.w.ownsRow base F 2 x p.Set.length us∧p.Set.length≤maxLen∧∀ (q:Nat) (y:Power),p.Set[q]?=some y→∃ a b:Int,us[q*2]?=some (.int .i64 a)∧us[q*2+1]?=some (.int .i64 b)∧(ex=true→a=y.V∧b=y.N)
 apart0:∀ (k:Nat) (x:Value) (b:Nat),ws[k]?=some x→zcu x=some b→zcu v0≠some b
 apart:∀ (k k':Nat) (x x':Value) (b:Nat),k≠k'→ws[k]?=some x→ws[k']?=some x'→zcu x=some b→zcu x'≠some b
theorem NestOk.weak {C:Cx} {base:Nat} {E F:TypeId} {ex ex':Bool} {l:List Packet} {v0:Value} {ws:Array Value} {vs:List Value} (h:NestOk C base E F ex' l v0 ws vs) (hx:ex=true→ex'=true):NestOk C base E F ex l v0 ws vs:=by
 refine ⟨h.row,h.size,h.most,fun k p x hp hx'=>?_,h.apart0,h.apart⟩
 obtain ⟨h1,⟨a0,a1,a2,a3,h2,h3⟩,h4,us,h5,h6,h7⟩:=h.at_ k p x hp hx'
 refine ⟨h1,⟨a0,a1,a2,a3,h2,fun e=>h3 (hx e)⟩,h4,us,h5,h6,fun q y hq=>?_⟩
 obtain ⟨a,b,k1,k2,k3⟩:=h7 q y hq
 exact ⟨a,b,k1,k2,fun e=>k3 (hx e)⟩
theorem NestOk.mono {C C':Cx} (hle:∀ x d,Rd C (.sl (.ints x)) d→Rd C' (.sl (.ints x)) d) {base:Nat} {E F:TypeId} {ex:Bool} {l:List Packet} {v0:Value} {ws:Array Value} {vs:List Value} (h:NestOk C base E F ex l v0 ws vs)
  (hb:∀ b,zwe (.tuple #[v0,.agg ws]) b→C'.w.heap[b]?=C.w.heap[b]?):NestOk C' base E F ex l v0 ws vs:=by
 refine ⟨zfg h.row fun b h=>hb b (.inr ⟨v0,ws,rfl,.inl h⟩),h.size,h.most,fun k p x hp hx=>?_,h.apart0,h.apart⟩
 obtain ⟨h1,h2,⟨d,h3,h4⟩,us,h5,h6⟩:=h.at_ k p x hp hx
 exact ⟨h1,h2,⟨d,h3,hle _ _ h4⟩,us,zfg h5 fun b hbb=>hb b (.inr ⟨v0,ws,rfl,.inr ⟨x,Array.mem_toList_iff.2 (Array.mem_of_getElem? hx),hbb⟩⟩),h6⟩
def BlkOk (C:Cx) (base:Nat) (j:Nat):Blk→Prop
 | .dead=>True
 | .free=>C.nu j=none
 | .cells T cs=>∃ b vs,C.nu j=some (.pointer (some ⟨b,0,none⟩))∧C.w.heap[b]?=some (.cells vs.toArray T (0,0))∧Rds C cs vs
 | .rows E s=>∃ v vs,C.nu j=some v∧C.w.ownsRow base E s.sz v s.len vs∧(∀ k c,k < s.len→c < s.sz→Rd C (s.cell k c) (vs.getD (k*s.sz+c) undef))∧s.len≤maxLen
 | .pub s=>∃ v,C.nu j=some v∧Rd C (.sl s) v
 | .bit p q=>∃ b:Bool,C.nu j=some (.bool b)∧(b=true→p)∧(b=false→q)
 | .maps m=>∃ b es clock,C.nu j=some (.map (some b))∧C.w.heap[b]?=some (.map es clock)∧MapRd C m es clock
 | .nest E F ex l=>∃ v0 ws vs,C.nu j=some (.tuple #[v0,.agg ws])∧NestOk C base E F ex l v0 ws vs
theorem BlkOk.mono {C C':Cx} (hle:C.Le C') {base j:Nat} {x:Blk} (h:BlkOk C base j x)
  (hb:x.live=true→∀ v b,C.nu j=some v→zwe v b→C'.w.heap[b]?=C.w.heap[b]?) (hfree:C'.nu j=C.nu j):BlkOk C' base j x:=by
 cases x with
 | dead=>trivial
 | free=>exact hfree.trans h
 | cells T cs =>
  obtain ⟨b,vs,h1,h2,h3⟩:=h
  exact ⟨b,vs,hle.nu _ _ h1,by rw[hb rfl _ b h1 (hasB_ptr.2 rfl)];exact h2,h3.mono hle⟩
 | rows E s =>
  obtain ⟨v,vs,h1,h2,h3,h4⟩:=h
  exact ⟨v,vs,hle.nu _ _ h1,zfg h2 fun b hbb=>hb rfl _ b h1 (.inl hbb),fun k c hk hc=>(h3 k c hk hc).mono hle,h4⟩
 | pub s =>
  obtain ⟨v,h1,h2⟩:=h
  exact ⟨v,hle.nu _ _ h1,h2.mono hle⟩
 | bit p q =>
  obtain ⟨b,h1,h2⟩:=h
  exact ⟨b,hle.nu _ _ h1,h2⟩
 | maps m =>
  obtain ⟨b,es,clock,h1,h2,h3⟩:=h
  exact ⟨b,es,clock,hle.nu _ _ h1,by rw[hb rfl _ b h1 (hasB_map.2 rfl)];exact h2,h3.mono hle⟩
 | nest E F ex l =>
  obtain ⟨v0,ws,vs,h1,h2⟩:=h
  exact ⟨v0,ws,vs,hle.nu _ _ h1,h2.mono (fun _ _ h=>h.mono hle) fun b hbb=>hb rfl _ b h1 hbb⟩
structure MInv (G:Gl) (blks:List Blk) (nu:Nat→Option Value) (w:World):Prop where
 ok:∀ j,BlkOk (cx G blks nu w) 0 j (blks.getD j .dead)
 apart:∀ j j' v v' b,j≠j'→(blks.getD j .dead).live=true→(blks.getD j' .dead).live=true→nu j=some v→nu j'=some v'→zwe v b→¬ zwe v' b
 low:∀ j v b,(blks.getD j .dead).live=true→nu j=some v→zwe v b→b < w.heap.size∧(G.w0.heap.size≤b∨G.A b)
 os:w.os=G.w0.os
 tape:w.tape=G.w0.tape
 output:w.output=G.w0.output
 size:G.w0.heap.size≤w.heap.size
 block:∀ b,b < G.w0.heap.size→¬ G.A b→w.heap[b]?=G.w0.heap[b]?
 fix:∀ k v,G.fix k=some v→nu k=some v
def SRd (E:Nat→Option Bool) (C:Cx):SV→Value→Prop
 | .plain x,v=>Rd C x v
 | .cond t x,v=>((∀ p,p∈t→E p.1=some p.2)∧Rd C x v)∨((∃ p,p∈t∧E p.1=some (!p.2))∧v=undef)
theorem SRd.mono {E E':Nat→Option Bool} {C C':Cx} (hle:C.Le C') (hE:∀ d b,E d=some b→E' d=some b) {x:SV} {v:Value} (h:SRd E C x v):SRd E' C' x v:=by
 cases x with
 | plain x=>exact Rd.mono hle h
 | cond t x =>
  rcases h with ⟨h1,h2⟩ | ⟨⟨p,h1,h2⟩,h3⟩
  ·exact .inl ⟨fun p hp=>hE _ _ (h1 p hp),h2.mono hle⟩
  ·exact .inr ⟨⟨p,h1,hE _ _ h2⟩,h3⟩
structure RInv (G:Gl) (gs:List Nat) (st:RSt) (nu:Nat→Option Value) (a:Act) (w:World):Prop where
 mem:MInv G st.blks nu w
 size:a.tmps.size=st.slots.length
 defers:a.defers=[]
 slots:∀ d,d < st.slots.length→SRd (st.E gs) (cx G st.blks nu w) (st.slot d) (a.tmps.getD d undef)
theorem zayt {G:Gl} {blks blks':List Blk} {nu nu':Nat→Option Value} {w w':World}
  (hnu:∀ j v,nu j=some v→nu' j=some v)
  (hblk:∀ b,b < w.heap.size→¬ (G.L0 b∨zpm blks nu b)→w'.heap[b]?=w.heap[b]?)
  (hL:∀ b,b < w.heap.size→zpm blks' nu' b→G.L0 b∨zpm blks nu b):(cx G blks nu w).Le (cx G blks' nu' w') where
 cell a v hl hc:=by
  have hb:=World.block_lt_of_cell? w a hc
  have:=World.cell?_of_block (w:=w) (w':=w') (hblk a.block hb hl)
  exact this.trans hc
 L a v hl hc:=by
  have hb:=World.block_lt_of_cell? w a hc
  rintro (h | h)
  ·exact hl (.inl h)
  ·exact hl (hL _ hb h)
 nu:=hnu
theorem MInv.step {G:Gl} {blks blks':List Blk} {nu nu':Nat→Option Value} {w w':World} (h:MInv G blks nu w) (ch:Nat→Prop)
  (hnu:∀ j v,nu j=some v→nu' j=some v)
  (hw:∀ b,b < w.heap.size→(∀ j v,ch j→(blks.getD j .dead).live=true→nu j=some v→¬ zwe v b)→w'.heap[b]?=w.heap[b]?)
  (hsz:w.heap.size≤w'.heap.size) (hos:w'.os=w.os) (htape:w'.tape=w.tape) (hout:w'.output=w.output)
  (hkeep:∀ j,¬ ch j→blks'.getD j .dead=blks.getD j .dead)
  (hkeepnu:∀ j,¬ ch j→nu' j=nu j)
  (hnew:(cx G blks nu w).Le (cx G blks' nu' w')→∀ j,ch j→BlkOk (cx G blks' nu' w') 0 j (blks'.getD j .dead))
  (hlive:∀ j v b,ch j→(blks'.getD j .dead).live=true→nu' j=some v→zwe v b →
   b < w'.heap.size∧(w.heap.size≤b∨∃ i u,ch i∧(blks.getD i .dead).live=true∧nu i=some u∧zwe u b))
  (hapart:∀ j j' v v' b,j≠j'→ch j→ch j'→(blks'.getD j .dead).live=true→(blks'.getD j' .dead).live=true→nu' j=some v→nu' j'=some v' →
   zwe v b→¬ zwe v' b) :
  (cx G blks nu w).Le (cx G blks' nu' w')∧MInv G blks' nu' w':=by
 have hle:(cx G blks nu w).Le (cx G blks' nu' w'):=by
  refine zayt hnu (fun b hb hn=>hw b hb fun j v hj hl hv he=>hn (.inr ⟨j,v,hl,hv,he⟩)) (fun b hb hl=>?_)
  obtain ⟨j,v,h1,h2,h3⟩:=hl
  by_cases hj:ch j
  ·rcases (hlive j v b hj h1 h2 h3).2 with h4 | ⟨i,u,h4,h5,h6,h7⟩
   ·omega
   ·exact .inr ⟨i,u,h5,h6,h7⟩
  ·rw[hkeep j hj] at h1;rw[hkeepnu j hj] at h2
   exact .inr ⟨j,v,h1,h2,h3⟩
 refine ⟨hle,⟨fun j=>?_,?_,?_,hos.trans h.os,htape.trans h.tape,hout.trans h.output,Nat.le_trans h.size hsz,fun b hb hA=>?_,fun k v hk=>hnu k v (h.fix k v hk)⟩⟩
 ·by_cases hj:ch j
  ·exact hnew hle j hj
  ·rw[hkeep j hj]
   refine (h.ok j).mono hle (fun hl v b hv hb=>hw b (h.low j v b hl hv hb).1 fun i u hi hli hu he=>?_) ?_
   ·exact h.apart j i v u b (fun e=>hj (e ▸ hi)) hl hli hv hu hb he
   ·exact hkeepnu j hj
 ·intro j j' v v' b hne hl hl' hv hv' hb
  by_cases hj:ch j<;>by_cases hj':ch j'
  ·exact hapart j j' v v' b hne hj hj' hl hl' hv hv' hb
  ·rw[hkeep j' hj'] at hl';rw[hkeepnu j' hj'] at hv'
   intro he
   rcases (hlive j v b hj hl hv hb).2 with h4 | ⟨i,u,h4,h5,h6,h7⟩
   ·have:=(h.low j' v' b hl' hv' he).1;omega
   ·exact h.apart i j' u v' b (fun e=>hj' (e ▸ h4)) h5 hl' h6 hv' h7 he
  ·rw[hkeep j hj] at hl;rw[hkeepnu j hj] at hv
   intro he
   rcases (hlive j' v' b hj' hl' hv' he).2 with h4 | ⟨i,u,h4,h5,h6,h7⟩
   ·have:=(h.low j v b hl hv hb).1;omega
   ·exact h.apart j i v u b (fun e=>hj (e ▸ h4)) hl h5 hv h6 hb h7
  ·rw[hkeep j hj] at hl;rw[hkeepnu j hj] at hv;rw[hkeep j' hj'] at hl';rw[hkeepnu j' hj'] at hv'
   exact h.apart j j' v v' b hne hl hl' hv hv' hb
 ·intro j v b hl hv hb
  by_cases hj:ch j
  ·obtain ⟨h1,h2⟩:=hlive j v b hj hl hv hb
   refine ⟨h1,?_⟩
   rcases h2 with h4 | ⟨i,u,h4,h5,h6,h7⟩
   ·exact .inl (Nat.le_trans h.size h4)
   ·exact (h.low i u b h5 h6 h7).2
  ·rw[hkeep j hj] at hl;rw[hkeepnu j hj] at hv
   have:=h.low j v b hl hv hb
   exact ⟨by omega,this.2⟩
 ·have hb':b < w.heap.size:=Nat.lt_of_lt_of_le hb h.size
  rw[← h.block b hb hA]
  refine hw b hb' fun j v hj hl hv he=>?_
  rcases (h.low j v b hl hv he).2 with h1 | h1
  ·omega
  ·exact hA h1
theorem zp {α:Type} {l:List α} {j:Nat} {x d:α} (h:j < l.length):(l.set j x).getD j d=x:=by
 rw[yy0,List.getElem?_set_self h];rfl
theorem getD_set_ne {α:Type} {l:List α} {i j:Nat} {x d:α} (h:i≠j):(l.set i x).getD j d=l.getD j d:=by
 rw[yy0,List.getElem?_set_ne h,← yy0]
theorem zq7 (w:World) (o:Obj):(w.alloc o).heap.size=w.heap.size+1:=Array.size_push _
theorem MInv.of_same {G:Gl} {blks:List Blk} {nu:Nat→Option Value} {w w':World} (h:MInv G blks nu w) (hh:w'.heap=w.heap) (hos:w'.os=w.os) (ht:w'.tape=w.tape) (ho:w'.output=w.output) :
  (cx G blks nu w).Le (cx G blks nu w')∧MInv G blks nu w' :=
 h.step (fun _=>False) (fun _ _ h=>h) (fun b _ _=>by rw[hh]) (by rw[hh];exact Nat.le_refl _) hos ht ho (fun _ _=>rfl) (fun _ _=>rfl) (fun _ _ h=>h.elim)
  (fun _ _ _ h=>h.elim) (fun _ _ _ _ _ _ h=>h.elim)
theorem MInv.alloc {G:Gl} {blks:List Blk} {nu:Nat→Option Value} {w:World} (h:MInv G blks nu w) {j:Nat} {T:TypeId} {cs:List AV} {vs:List Value}
  (hf:blks.getD j .dead=.free) (hr:Rds (cx G blks nu w) cs vs) :
  ∃ nu',(cx G blks nu w).Le (cx G (blks.set j (.cells T cs)) nu' (w.alloc (.cells vs.toArray T)))∧MInv G (blks.set j (.cells T cs)) nu' (w.alloc (.cells vs.toArray T)) ∧
   nu' j=some (.pointer (some ⟨w.heap.size,0,none⟩)):=by
 have hd:nu j=none:=by have:=h.ok j;rw[hf] at this;exact this
 have hj:j < blks.length:=by
  rcases Nat.lt_or_ge j blks.length with h1 | h1
  ·exact h1
  ·rw[yy0,List.getElem?_eq_none h1] at hf;cases hf
 refine ⟨fun i=>if i=j then some (.pointer (some ⟨w.heap.size,0,none⟩)) else nu i,?_⟩
 have:=h.step (w':=w.alloc (.cells vs.toArray T)) (blks':=blks.set j (.cells T cs)) (nu':=fun i=>if i=j then some (.pointer (some ⟨w.heap.size,0,none⟩)) else nu i) (fun i=>i=j)
  (fun i v hi=>by
   by_cases e:i=j
   ·rw[e,hd] at hi;cases hi
   ·simp only[e,if_false];exact hi)
  (fun b hb _=>Below.heap_alloc w _ b hb) (by rw[zq7];omega) rfl rfl rfl
  (fun i hi=>getD_set_ne (fun e=>hi e.symm)) (fun i hi=>by simp[hi])
  (fun hle i hi=>by
   subst hi
   rw[zp hj]
   exact ⟨w.heap.size,vs,by simp[cx],heap_alloc_new w _,hr.mono hle⟩)
  (fun i v b hi _ hv hb=>by
   simp only[hi,if_true,yy1] at hv
   subst hv
   replace hb:w.heap.size=b:=hasB_ptr.1 hb
   subst hb
   exact ⟨by rw[zq7];omega,.inl (Nat.le_refl _)⟩)
  (fun i i' v v' b hne hi hi'=>(hne (hi.trans hi'.symm)).elim)
 exact ⟨this.1,this.2,by simp⟩
theorem MInv.write {G:Gl} {blks:List Blk} {nu:Nat→Option Value} {w w':World} (h:MInv G blks nu w) {j b:Nat} {T:TypeId} {cs:List AV} {cs':List AV} {vs':List Value}
  (hf:blks.getD j .dead=.cells T cs) (hb:nu j=some (.pointer (some ⟨b,0,none⟩))) (hr:Rds (cx G blks nu w) cs' vs')
  (hw:∀ k,k≠b→w'.heap[k]?=w.heap[k]?) (hwb:w'.heap[b]?=some (.cells vs'.toArray T (0,0))) (hsz:w'.heap.size=w.heap.size)
  (hos:w'.os=w.os) (htape:w'.tape=w.tape) (hout:w'.output=w.output) :
  (cx G blks nu w).Le (cx G (blks.set j (.cells T cs')) nu w')∧MInv G (blks.set j (.cells T cs')) nu w':=by
 have hj:j < blks.length:=by
  rcases Nat.lt_or_ge j blks.length with h1 | h1
  ·exact h1
  ·rw[yy0,List.getElem?_eq_none h1] at hf;cases hf
 have hl:(blks.getD j .dead).live=true:=by rw[hf];rfl
 refine h.step (fun i=>i=j) (fun _ _ h=>h) (fun k hk hn=>hw k fun e=>?_) (by omega) hos htape hout (fun i hi=>getD_set_ne (fun e=>hi e.symm)) (fun _ _=>rfl)
  (fun hle i hi=>?_) (fun i v k hi _ hv hk=>?_) (fun i i' v v' b hne hi hi'=>(hne (hi.trans hi'.symm)).elim)
 ·exact hn j _ rfl hl hb (hasB_ptr.2 e.symm)
 ·subst hi
  rw[zp hj]
  exact ⟨b,vs',hb,hwb,hr.mono hle⟩
 ·have:=h.low j v k hl (hi ▸ hv) hk
  exact ⟨by omega,.inr ⟨j,v,rfl,hl,hi ▸ hv,hk⟩⟩
def zi {α:Type} (P:Program):Sem α→Option α
 | .pure a=>some a
 | .program k=>zi P (k P)
 | _=>none
theorem zj {α:Type} {P:Program} {s:Sem α} {a:α} (h:zi P s=some a) (w:World):s.run P w=.ok a w:=by
 induction s with
 | pure b=>simp only[zi,yy1] at h;subst h;rfl
 | program k ih=>exact ih P h
 | _=>simp[zi] at h
def zuz:List Prop→Prop
 | []=>True
 | p::l=>p∧zuz l
structure Res where
 obl:List Prop
 v:AV
 bs:List (Nat×Blk)
def upd (blks:List Blk) (bs:List (Nat×Blk)):List Blk:=bs.foldl (fun b p=>b.set p.1 p.2) blks
abbrev Spec:=List AV→(Nat→Blk)→Nat→Option Res
def zf1 (G:Gl) (blks:List Blk) (nu:Nat→Option Value) (w:World) (r:Res) (v:Value) (w':World):Prop :=
 ∃ nu',(cx G blks nu w).Le (cx G (upd blks r.bs) nu' w')∧MInv G (upd blks r.bs) nu' w'∧Rd (cx G (upd blks r.bs) nu' w') r.v v
def Does (P:Program) (o:Oper) (e:Operand→Value) (w:World) (Q:Value→World→Prop):Prop :=
 match (execOp e o).run P w with
 | .ok (.value v) w'=>Q v w'
 | .ok .skip w'=>Q undef w'
 | .ok (.enter f args) w'=>Calls P f args w' (fun x w''=>∃ v,x=.returned v∧Q v w'')
 | _=>False
theorem Does.value {P:Program} {o:Oper} {e:Operand→Value} {w w':World} {Q:Value→World→Prop} {v:Value} (h:(execOp e o).run P w=.ok (.value v) w') (hq:Q v w'):Does P o e w Q:=by
 unfold Does;rw[h];exact hq
theorem Does.skip {P:Program} {o:Oper} {e:Operand→Value} {w w':World} {Q:Value→World→Prop} (h:(execOp e o).run P w=.ok .skip w') (hq:Q undef w'):Does P o e w Q:=by
 unfold Does;rw[h];exact hq
theorem Does.enter {P:Program} {o:Oper} {e:Operand→Value} {w w':World} {Q:Value→World→Prop} {f:FuncId} {args:Array Value} (h:(execOp e o).run P w=.ok (.enter f args) w')
  (hq:Calls P f args w' (fun x w''=>∃ v,x=.returned v∧Q v w'')):Does P o e w Q:=by
 unfold Does;rw[h];exact hq
theorem Does.wp {P:Program} {o:Oper} {a:Act} {w:World} {Q:Value→World→Prop} (h:Does P o a.eval w Q) {K:Act→World→Prop} {X:Exit→Act→World→Prop}
  (hk:∀ v w',Q v w'→K (a.put o.dst v) w'):o.wp P a w K X:=by
 unfold Does at h
 unfold Oper.wp
 generalize (execOp a.eval o).run P w=r at *
 cases r with
 | halt x w'=>exact h.elim
 | ok n w' =>
  cases n<;>simp only at h<;>simp only[Oper.upon]
  case value v=>exact hk _ _ h
  case skip=>exact hk _ _ h
  case enter f args=>exact h.mono fun e w'' ⟨v,he,hq⟩=>by subst he;exact hk _ _ hq
  all_goals exact h.elim
theorem zam {G:Gl} {blks:List Blk} {nu:Nat→Option Value} {w:World} (h:MInv G blks nu w) {x:AV} {v:Value} (hr:Rd (cx G blks nu w) x v) :
  zf1 G blks nu w ⟨[],x,[]⟩ v w:=⟨nu,.refl _,h,hr⟩
def cellsOf:AV→Option (List AV)
 | .agg cs=>some cs
 | .val v=>some (v.cells.toList.map .val)
 | .sl s=>some [.sl s]
 | .ptr j off=>some [.ptr j off]
 | .eptr s k off=>some [.eptr s k off]
 | .pix j b ix o=>some [.pix j b ix o]
 | .rptr j z o i=>some [.rptr j z o i]
 | .fn f cs=>some [.fn f cs]
 | _=>none
theorem zpg (C:Cx) (vs:List Value):Rds C (vs.map .val) vs:=by
 refine Rds.of_get (by simp) (fun i c v h1 h2=>?_)
 rw[List.getElem?_map,h2] at h1
 simp at h1;subst h1;exact .val
theorem z1o {C:Cx} {x:AV} {v:Value} (h:Rd C x v) {cs:List AV} (hc:cellsOf x=some cs):Rds C cs v.cells.toList:=by
 cases h<;>simp only[cellsOf,yy1,reduceCtorEq] at hc<;>subst hc
 case val=>exact zpg C _
 case agg vs hl h=>exact ⟨by simpa[Value.cells] using hl,by simpa[Value.cells] using h⟩
 case fn hl h=>exact .cons (.fn hl h) .nil
 case slnil h0=>exact .cons (.slnil h0) .nil
 case sl a cap g hm hcp hcell hL hrd=>exact .cons (.sl a cap g hm hcp hcell hL hrd) .nil
 case ptr h=>exact .cons (.ptr h) .nil
 case eptr a g hs hL hcell hrd=>exact .cons (.eptr a g hs hL hcell hrd) .nil
 case pix h hi=>exact .cons (.pix h hi) .nil
 case rptr h hi=>exact .cons (.rptr h hi) .nil
theorem size_push (P:Program) (w:World) (v:Value) (t:TypeId):(newVar t v).run P w=.ok ⟨w.heap.size,0,none⟩ (w.alloc (.cells v.cells t)):=by
 simp[newVar,newRow]
section sound
variable {P:Program} {G:Gl} {blks:List Blk} {nu:Nat→Option Value} {w:World} (h:MInv G blks nu w)
include h
theorem zael {o:Oper} {T:TypeId} {e:Operand→Value} {z:Value} {id:Nat} (ho:o.op=.alloc T) (hz:zi P (zeroValue T)=some z) (hf:blks.getD id .dead=.free) :
  Does P o e w (zf1 G blks nu w ⟨[],.ptr id 0,[(id,.cells T (z.cells.toList.map .val))]⟩):=by
 obtain ⟨nu',h1,h2,h3⟩:=h.alloc (T:=T) hf (zpg _ z.cells.toList)
 refine Does.value (v:=.pointer (some ⟨w.heap.size,0,none⟩)) (w':=w.alloc (.cells z.cells T)) ?_ ⟨nu',?_,?_,.ptr h3⟩
 ·simp[execOp,ho,Instr.alloc,zj hz w,size_push]
 ·simpa[upd] using h1
 ·simpa[upd] using h2
theorem zaj6 {o:Oper} {T:TypeId} {x:Operand} {e:Operand→Value} {c:AV} {cs:List AV} {id:Nat} (ho:o.op=.box T x) (hx:Rd (cx G blks nu w) c (e x)) (hc:cellsOf c=some cs)
  (hf:blks.getD id .dead=.free):Does P o e w (zf1 G blks nu w ⟨[],.ptr id 0,[(id,.cells T cs)]⟩):=by
 obtain ⟨nu',h1,h2,h3⟩:=h.alloc (T:=T) hf (z1o hx hc)
 refine Does.value (v:=.pointer (some ⟨w.heap.size,0,none⟩)) (w':=w.alloc (.cells (e x).cells T)) ?_ ⟨nu',?_,?_,.ptr h3⟩
 ·simp[execOp,ho,Instr.box,size_push]
 ·simpa[upd] using h1
 ·simpa[upd] using h2
omit h in
theorem z7 (b off j:Nat):(⟨b,off,none⟩:Addr).add j=⟨b,off+j,none⟩:=by
 unfold Addr.add;split<;>simp_all
omit h in
theorem zb8 {T:TypeId} {t:Bool} (ht:zi P (isAgg T)=some t) {n:Nat} (hn:zi P (sizeOf T)=some n) (a:Addr) (vs:List Value)
  (hl:vs.length=n) (h1:t=false→n=1) (hc:∀ j v,vs[j]?=some v→w.cell? (a.add j)=some v) :
  (loadVar T a).run P w=.ok (if t then .agg vs.toArray else vs.getD 0 undef) w:=by
 cases t with
 | true =>
  have:=run_loadCells_list (P:=P) w a vs hc
  rw[hl] at this
  simp[loadVar,zj ht w,zj hn w,this]
 | false =>
  have hn1:=h1 rfl
  match vs,hl,hc with
  | [v],_,hc =>
   have:=hc 0 v rfl
   have ha:a.add 0=a:=by simp[Addr.add]
   rw[ha] at this
   simp[loadVar,zj ht w,this]
  | [],hl,_=>simp at hl;omega
  | _::_::_,hl,_=>simp at hl;omega
def zm8 (t:Bool) (cs:List AV):AV:=if t then .agg cs else cs.getD 0 .any
omit h in
theorem zic {C:Cx} {t:Bool} {cs:List AV} {vs:List Value} (hr:Rds C cs vs) (h1:t=false→cs.length=1):Rd C (zm8 t cs) (if t then .agg vs.toArray else vs.getD 0 undef):=by
 cases t with
 | true=>exact .agg hr.1 hr.2
 | false=>exact hr.2 0 (by have:=h1 rfl;omega)
theorem z52 {o:Oper} {T:TypeId} {x:Operand} {e:Operand→Value} {j off:Nat} {U:TypeId} {cs:List AV} {t:Bool} {n:Nat} (ho:o.op=.load T x)
  (hx:Rd (cx G blks nu w) (.ptr j off) (e x)) (hb:blks.getD j .dead=.cells U cs) (ht:zi P (isAgg T)=some t) (hn:zi P (sizeOf T)=some n)
  (h1:t=false→n=1) (hl:((cs.drop off).take n).length=n):Does P o e w (zf1 G blks nu w ⟨[],zm8 t ((cs.drop off).take n),[]⟩):=by
 have hk:=h.ok j
 rw[hb] at hk
 obtain ⟨b,vs,e1,e2,e3⟩:=hk
 generalize hv:e x=v at hx
 cases hx with
 | @ptr _ _ b' e4 =>
  have:b=b':=by have:=e1.symm.trans e4;simpa using this
  subst this
  have hr:Rds (cx G blks nu w) ((cs.drop off).take n) ((vs.drop off).take n):=(e3.drop off).take n
  have hrun:=zb8 (w:=w) ht hn ⟨b,off,none⟩ ((vs.drop off).take n) (by rw[hr.1];exact hl) h1 (fun i v hi=>by
   rw[z7,cell_of_row w b (off+i) vs.toArray U (0,0) e2]
   have hin:i < n:=by have:=(List.getElem?_eq_some_iff.1 hi).1;simp at this;omega
   rw[List.getElem?_take_of_lt hin,List.getElem?_drop] at hi
   simpa using hi)
  refine Does.value (v:=if t then .agg ((vs.drop off).take n).toArray else ((vs.drop off).take n).getD 0 undef) (w':=w) ?_ (zam h (zic hr (fun ht=>by rw[hl];exact h1 ht)))
  simp[execOp,ho,Instr.loadAt,Instr.sureAddr,hv,hrun]
theorem z3y {o:Oper} {T:TypeId} {x:Operand} {e:Operand→Value} {s:Sl} {k off:Nat} {t:Bool} {n:Nat} (ho:o.op=.load T x)
  (hx:Rd (cx G blks nu w) (.eptr s k off) (e x)) (ht:zi P (isAgg T)=some t) (hn:zi P (sizeOf T)=some n)
  (h1:t=false→n=1) (hl:(((s.row k).drop off).take n).length=n):Does P o e w (zf1 G blks nu w ⟨[],zm8 t (((s.row k).drop off).take n),[]⟩):=by
 generalize hv:e x=v at hx
 cases hx with
 | eptr a g hs hL hcell hrd =>
  have hlen:off+n≤s.sz∨n=0:=by
   have:=hl
   rw[List.length_take,List.length_drop,Sl.row_length] at this
   omega
  have hr:Rds (cx G blks nu w) (((s.row k).drop off).take n) ((List.range n).map g):=by
   refine Rds.of_get (by rw[hl];simp) (fun i c v e1 e2=>?_)
   have hin:i < n:=by have:=(List.getElem?_eq_some_iff.1 e2).1;simpa using this
   have e3:(List.range n)[i]?=some i:=by rw[List.getElem?_range hin]
   rw[List.getElem?_map,e3] at e2
   simp only[Option.map_some,yy1] at e2
   subst e2
   have:=hrd i (by omega)
   rw[List.getElem?_take_of_lt hin,List.getElem?_drop] at e1
   unfold Sl.cell at this
   rw[yy0,e1] at this
   exact this
  have hrun:=zb8 (w:=w) ht hn a ((List.range n).map g) (by simp) h1 (fun i v hi=>by
   have hin:i < n:=by have:=(List.getElem?_eq_some_iff.1 hi).1;simpa using this
   have e3:(List.range n)[i]?=some i:=by rw[List.getElem?_range hin]
   rw[List.getElem?_map,e3] at hi
   simp only[Option.map_some,yy1] at hi
   subst hi
   exact hcell i (by omega))
  refine Does.value (v:=if t then .agg ((List.range n).map g).toArray else ((List.range n).map g).getD 0 undef) (w':=w) ?_ (zam h (zic hr (fun ht=>by rw[hl];exact h1 ht)))
  simp only[execOp,ho,Instr.loadAt,Instr.sureAddr,hv,Sem.run_bind,Sem.run_pure',hrun,Result.andThen_ok,Sem.run_pure,bind_pure_comp,Sem.run_map]
def one (blks:Nat→Blk):AV→Bool
 | .val v=>v.oneCell'
 | .sl _=>true
 | .ptr _ _=>true
 | .eptr _ _ _=>true
 | .pix _ _ _ _=>true
 | .rptr _ _ _ _=>true
 | .win _ _ _=>true
 | .fn _ _=>true
 | .own j=>match blks j with
  | .rows _ _=>true
  | .pub _=>true
  | .maps _=>true
  | _=>false
 | .nst j .whole=>match blks j with
  | .nest _ _ _ _=>true
  | _=>false
 | _=>false
theorem z1p {x:AV} {v:Value} (hx:Rd (cx G blks nu w) x v) (h1:one (fun j=>blks.getD j .dead) x=true):v.oneCell'=true:=by
 cases hx<;>try (first | rfl | (simp[one] at h1;done))
 case val=>exact h1
 case own j hn =>
  have hk:=h.ok j
  simp only[one] at h1
  generalize blks.getD j .dead=B at h1 hk
  cases B<;>simp at h1
  case rows E s =>
   obtain ⟨u,vs,e1,e2,_⟩:=hk
   have:=hn.symm.trans e1
   simp at this;subst this
   rcases e2.2 with ⟨e3,_⟩ | ⟨g,cap,cur,e3,_⟩<;>rw[e3]<;>rfl
  case pub s =>
   obtain ⟨u,e1,e2⟩:=hk
   have:=hn.symm.trans e1
   simp at this;subst this
   cases e2<;>rfl
  case maps m =>
   obtain ⟨b,es,clock,e1,e2⟩:=hk
   have:=hn.symm.trans e1
   simp at this;subst this
   rfl
 case nst j r u hn hr =>
  cases r<;>simp only[one,Bool.false_eq_true] at h1
  have hk:=h.ok j
  generalize blks.getD j .dead=B at h1 hk
  cases B<;>simp at h1
  case nest E F ex l =>
   obtain ⟨v0,ws,vs,e1,e2⟩:=hk
   obtain ⟨v1,ws1,e3,e4⟩:=hr
   have:=hn.symm.trans e1
   rw[e3] at this
   simp only[yy1,Value.tuple.injEq,Array.mk.injEq,List.cons.injEq,and_true] at this
   have e4:v=v1:=e4
   rw[e4,this.1]
   rcases e2.row.2 with ⟨e5,_⟩ | ⟨g,cap,cur,e5,_⟩<;>rw[e5]<;>rfl
def zag:AV→List AV
 | .agg cs=>cs
 | .val v=>v.cells.toList.map .val
 | x=>[x]
theorem zwc {x:AV} {v:Value} (hx:Rd (cx G blks nu w) x v) (h1:(zag x).all (one fun j=>blks.getD j .dead)=true) :
  Rds (cx G blks nu w) (zag x) v.cells.toList∧∀ u,u∈v.cells.toList→u.oneCell'=true:=by
 have main:Rds (cx G blks nu w) (zag x) v.cells.toList:=by
  have hone:∀ (hx:Rd (cx G blks nu w) x v),zag x=[x]→v.oneCell'=true→Rds (cx G blks nu w) (zag x) v.cells.toList:=by
   intro hx hc hv
   rw[hc]
   have:v.cells=#[v]:=by cases v<;>first | rfl | (simp[Value.oneCell'] at hv)
   rw[this]
   exact .cons hx .nil
  cases hx with
  | val=>exact zpg _ _
  | agg hl hh=>exact ⟨by simpa[Value.cells,zag] using hl,by simpa[Value.cells,zag] using hh⟩
  | any=>simp[zag,one] at h1
  | tup hl hh=>simp[zag,one] at h1
  | fn hl hh=>exact hone (.fn hl hh) rfl rfl
  | slnil h0=>exact hone (.slnil h0) rfl rfl
  | sl a cap g hm hc hcell hL hrd=>exact hone (.sl a cap g hm hc hcell hL hrd) rfl rfl
  | own hn=>exact hone (.own hn) rfl (z1p h (.own hn) (by simpa[zag] using h1))
  | ptr hn=>exact hone (.ptr hn) rfl rfl
  | eptr a g hs hL hcell hrd=>exact hone (.eptr a g hs hL hcell hrd) rfl rfl
  | pix hn hi=>exact hone (.pix hn hi) rfl rfl
  | rptr hn hi=>exact hone (.rptr hn hi) rfl rfl
  | rpix hn hi hb=>simp[zag,one] at h1
  | iface hn=>simp[zag,one] at h1
  | win hn=>exact hone (.win hn) rfl rfl
  | nst hn hr=>exact hone (.nst hn hr) rfl (z1p h (.nst hn hr) (by simpa[zag] using h1))
 refine ⟨main,fun u hu=>?_⟩
 obtain ⟨i,hi,rfl⟩:=List.getElem_of_mem hu
 have hi':i < (zag x).length:=by rw[← main.1];exact hi
 have hc:=List.all_eq_true.1 h1 (zag x)[i] (List.getElem_mem hi')
 obtain ⟨u,hu,hr⟩:=main.get i _ (yy3 hi')
 rw[yy3 hi] at hu
 cases hu
 exact z1p h hr hc
theorem zaem {o:Oper} {T:TypeId} {x y:Operand} {e:Operand→Value} {j off:Nat} {U:TypeId} {cs:List AV} {c:AV} {n:Nat} (ho:o.op=.store T x y)
  (hx:Rd (cx G blks nu w) (.ptr j off) (e x)) (hy:Rd (cx G blks nu w) c (e y)) (hb:blks.getD j .dead=.cells U cs) (hn:zi P (sizeOf T)=some n)
  (hc:(zag c).all (one fun j=>blks.getD j .dead)=true) (hl:(zag c).length=n) (hfit:off+n≤cs.length) :
  Does P o e w (zf1 G blks nu w ⟨[],.any,[(j,.cells U (cs.take off++zag c++cs.drop (off+n)))]⟩):=by
 obtain ⟨k1,k2⟩:=zwc h hy hc
 have hk:=h.ok j
 rw[hb] at hk
 obtain ⟨b,vs,e1,e2,e3⟩:=hk
 generalize hv:e x=v at hx
 cases hx with
 | @ptr _ _ b' e4 =>
  have:b=b':=by have:=e1.symm.trans e4;simpa using this
  subst this
  have hlen:(e y).cells.toList.length=n:=by rw[k1.1];exact hl
  have hst:=run_storeCells_at P b off U (e y).cells.toList 0 vs.toArray w e2 (by simp only[Nat.add_zero,List.size_toArray];rw[hlen,e3.1];exact hfit) k2
  have hr:Rds (cx G blks nu w) (cs.take off++zag c++cs.drop (off+n)) (vs.take off++(e y).cells.toList++vs.drop (off+n)):=((e3.take off).append k1).append (e3.drop _)
  simp only[Nat.add_zero,hlen] at hst
  obtain ⟨m1,m2⟩:=h.write (w':=w.setRow b (vs.take off++(e y).cells.toList++vs.drop (off+n)).toArray) hb e1 hr (fun k hk=>setRow_other w b k _ hk) (setRow_heap w b _ _ U _ e2) (by simp[World.setRow]) rfl rfl rfl
  refine Does.skip (w':=w.setRow b (vs.take off++(e y).cells.toList++vs.drop (off+n)).toArray) ?_ ⟨nu,by simpa[upd] using m1,by simpa[upd] using m2,.any⟩
  have hsz:((e y).cells.size≠n)=False:=by simp[← hlen]
  simp only[execOp,ho,Instr.storeAt,Instr.sureAddr,hv,Sem.run_bind,Sem.run_pure',Sem.run_pure,Result.andThen_ok,storeVar,zj hn w,hsz,if_false,hst,Sem.run_ite]
def zr0 (P:Program) (T:TypeId) (f:Nat):Option (Nat×TypeId) :=
 match P.underlying T with
 | some (.struct fs)=>match fs[f]? with
  | some fd=>match zi P (sizeOf fd.type) with
   | some (_+1)=>some (fd.offset,fd.type)
   | _=>none
  | none=>none
 | _=>none
omit h in
theorem zxo {T:TypeId} {f:Nat} {d:Nat×TypeId} (hd:zr0 P T f=some d) :
  ∃ fs fd n,P.underlying T=some (.struct fs)∧fs[f]?=some fd∧zi P (sizeOf fd.type)=some (n+1)∧d=(fd.offset,fd.type):=by
 unfold zr0 at hd
 split at hd
 ·rename_i fs hu
  split at hd
  ·rename_i fd hf
   split at hd
   ·rename_i n hn
    exact ⟨fs,fd,n,hu,hf,hn,by simpa using hd.symm⟩
   ·cases hd
  ·cases hd
 ·cases hd
omit h in
theorem zaap {T:TypeId} {f:Nat} {d:Nat×TypeId} (hd:zr0 P T f=some d) (a:Addr) :
  (Instr.fieldAt T (.pointer (some a)) f).run P w=.ok (.pointer (some (a.add d.1))) w:=by
 obtain ⟨fs,fd,n,hu,hf,hn,rfl⟩:=zxo hd
 simp[Instr.fieldAt,run_underlying hu,hf,Instr.sureAddr,fieldPlace,zj hn w]
omit h in
theorem zaaq (a:Addr) (ha:a.spot=none) (m n:Nat):(a.add m).add n=a.add (m+n):=by
 obtain ⟨b,o,s⟩:=a
 simp only at ha
 subst ha
 rw[z7,z7,z7,Nat.add_assoc]
omit h in
theorem zacs (a:Addr) (ha:a.spot=none) (m:Nat):(a.add m).spot=none:=by
 obtain ⟨b,o,s⟩:=a
 simp only at ha
 subst ha
 rw[z7]
omit h in
theorem Rd.eptr_add {C:Cx} {s:Sl} {k off n:Nat} {a:Addr} (hx:Rd C (.eptr s k off) (.pointer (some a))):Rd C (.eptr s k (off+n)) (.pointer (some (a.add n))):=by
 cases hx with
 | eptr _ g hs hL hcell hrd =>
  refine .eptr (a.add n) (fun c=>g (n+c)) (zacs a hs n) (fun h0=>by rw[zan];exact hL (by omega)) (fun c hc=>?_) (fun c hc=>?_)
  ·rw[zaaq a hs];exact hcell (n+c) (by omega)
  ·have:=hrd (n+c) (by omega)
   rwa [← Nat.add_assoc] at this
def zvn (n:Nat):AV→Option AV
 | .ptr j off=>some (.ptr j (off+n))
 | .eptr s k off=>some (.eptr s k (off+n))
 | .pix j b ix off=>some (.pix j b ix (off+n))
 | .rptr j sz off i=>some (.rptr j sz (off+n) i)
 | .rpix j sz off i ix=>some (.rpix j sz (off+n) i ix)
 | .nst j (.el i off)=>some (.nst j (.el i (off+n)))
 | .nst j (.ce i k off)=>some (.nst j (.ce i k (off+n)))
 | _=>none
omit h in
theorem z74 {C:Cx} {n:Nat} {c c':AV} {v:Value} (hc:zvn n c=some c') (hx:Rd C c v):∃ a,v=.pointer (some a)∧Rd C c' (.pointer (some (a.add n))):=by
 cases c<;>try (simp only[zvn,yy1,reduceCtorEq] at hc<;>subst hc)
 case ptr j off =>
  cases hx with
  | @ptr _ _ b hn=>exact ⟨_,rfl,by rw[z7];exact .ptr hn⟩
 case eptr s k off =>
  have hx':=hx
  cases hx with
  | eptr a g hs hL hcell hrd=>exact ⟨a,rfl,hx'.eptr_add⟩
 case pix j b ix off =>
  cases hx with
  | pix hn hi=>exact ⟨_,rfl,by rw[z7,Nat.add_assoc];exact .pix hn hi⟩
 case rptr j sz off i =>
  cases hx with
  | rptr hn hi=>exact ⟨_,rfl,by rw[z7,Nat.add_assoc];exact .rptr hn hi⟩
 case rpix j sz off i ix =>
  cases hx with
  | @rpix _ _ _ g m cap _ _ hn hi hb=>exact ⟨_,rfl,by rw[z7,show i.toNat*sz+off+ixN ix+n=i.toNat*sz+(off+n)+ixN ix by omega];exact .rpix hn hi hb⟩
 case nst j r =>
  cases r with
  | whole=>simp[zvn] at hc
  | set i=>simp[zvn] at hc
  | el i off =>
   simp only[zvn,yy1] at hc
   subst hc
   cases hx with
   | nst hn hr =>
    obtain ⟨v0,ws,rfl,g,m,cap,e1,e2,e3⟩:=hr
    exact ⟨_,e3,.nst hn ⟨v0,ws,rfl,g,m,cap,e1,e2,by rw[z7,Nat.add_assoc]⟩⟩
  | ce i k off =>
   simp only[zvn,yy1] at hc
   subst hc
   cases hx with
   | nst hn hr =>
    obtain ⟨v0,ws,rfl,g,m,cap,e1,e2,e3⟩:=hr
    exact ⟨_,e3,.nst hn ⟨v0,ws,rfl,g,m,cap,e1,e2,by rw[z7,Nat.add_assoc]⟩⟩
theorem z3z {o:Oper} {T:TypeId} {x:Operand} {f:Nat} {e:Operand→Value} {c c':AV} {d:Nat×TypeId} (ho:o.op=.fieldAddr T x f)
  (hx:Rd (cx G blks nu w) c (e x)) (hd:zr0 P T f=some d) (hc:zvn d.1 c=some c'):Does P o e w (zf1 G blks nu w ⟨[],c',[]⟩):=by
 obtain ⟨a,ha,hr⟩:=z74 hc hx
 refine Does.value (v:=.pointer (some (a.add d.1))) (w':=w) ?_ (zam h hr)
 simp[execOp,ho,ha,zaap hd]
theorem z75 {o:Oper} {x:Operand} {e:Operand→Value} {c:AV} (ho:o.op=.move x∨o.op=.assign x) (hx:Rd (cx G blks nu w) c (e x)) :
  Does P o e w (zf1 G blks nu w ⟨[],c,[]⟩):=by
 refine Does.value (v:=e x) (w':=w) ?_ (zam h hx)
 rcases ho with ho | ho<;>simp[execOp,ho]
theorem z53 {o:Oper} {x:Operand} {e:Operand→Value} {c:AV} (ho:o.op=.nilCheck x) (hx:Rd (cx G blks nu w) c (e x))
  (hc:(zvn 0 c).isSome=true):Does P o e w (zf1 G blks nu w ⟨[],c,[]⟩):=by
 obtain ⟨c',hc'⟩:=Option.isSome_iff_exists.1 hc
 obtain ⟨a,ha,_⟩:=z74 hc' hx
 refine Does.value (v:=e x) (w':=w) ?_ (zam h hx)
 simp[execOp,ho,ha]
theorem z76 {o:Oper} {x:Operand} {i:Nat} {e:Operand→Value} {cs:List AV} {c:AV} (ho:o.op=.extract x i) (hx:Rd (cx G blks nu w) (.tup cs) (e x)) (hc:cs[i]?=some c) :
  Does P o e w (zf1 G blks nu w ⟨[],c,[]⟩):=by
 generalize hv:e x=v at hx
 cases hx with
 | @tup _ vs hl hh =>
  obtain ⟨u,hu,hr⟩:=Rds.get ⟨hl,hh⟩ i c hc
  refine Does.value (v:=u) (w':=w) ?_ (zam h hr)
  simp[execOp,ho,hv,Instr.extract,hu]
theorem zaen {o:Oper} {T:TypeId} {x:Operand} {f:Nat} {e:Operand→Value} {cs:List AV} {d:Nat×TypeId} {t:Bool} {n:Nat} (ho:o.op=.field T x f)
  (hx:Rd (cx G blks nu w) (.agg cs) (e x)) (hd:zr0 P T f=some d) (ht:zi P (isAgg d.2)=some t) (hn:zi P (sizeOf d.2)=some n)
  (h1:t=false→n=1) (hl:((cs.drop d.1).take n).length=n):Does P o e w (zf1 G blks nu w ⟨[],zm8 t ((cs.drop d.1).take n),[]⟩):=by
 generalize hv:e x=v at hx
 cases hx with
 | @agg _ vs hvl hh =>
  have hr:Rds (cx G blks nu w) ((cs.drop d.1).take n) ((vs.drop d.1).take n):=((Rds.mk hvl hh).drop d.1).take n
  obtain ⟨fs,fd,m,hu,hf,hm,rfl⟩:=zxo hd
  refine Does.value (v:=if t then .agg ((vs.drop fd.offset).take n).toArray else ((vs.drop fd.offset).take n).getD 0 undef) (w':=w) ?_ (zam h (zic hr (fun ht=>by rw[hl];exact h1 ht)))
  cases t with
  | true =>
   have e1:vs.toArray.extract fd.offset (fd.offset+n)=((vs.drop fd.offset).take n).toArray:=by
    simp[List.extract_eq_take_drop]
   simp[execOp,ho,hv,Instr.field,run_underlying hu,hf,asAgg,part,zj ht w,zj hn w,e1]
  | false =>
   have hn1:=h1 rfl
   subst hn1
   have e1:∃ u,vs.toArray[fd.offset]?=some u∧((vs.drop fd.offset).take 1).getD 0 undef=u:=by
    have hlt:fd.offset < vs.length:=by have:=hr.1;rw[hl] at this;simp at this;omega
    refine ⟨vs[fd.offset],by simp[hlt],?_⟩
    rw[yy0,List.getElem?_take_of_lt (by omega),List.getElem?_drop]
    simp[hlt]
   obtain ⟨u,e2,e3⟩:=e1
   simp only[execOp,ho,hv,Instr.field,run_underlying hu,hf,asAgg,part,zj ht w,e2,e3,Sem.run_bind,Result.andThen_ok,Sem.run_pure,Bool.false_eq_true,if_false]
omit h in
theorem z4r (off:Nat):∀ (xs:List Value) (k:Nat) (cur:Array Value),off+k+xs.length≤cur.size →
  ((xs.zipIdx k).foldl (fun (cs:Array Value) (p:Value×Nat)=>cs.setIfInBounds (off+p.2) p.1) cur).toList=cur.toList.take (off+k)++xs++cur.toList.drop (off+k+xs.length)
 | [],k,cur,_=>by simp
 | x::xs,k,cur,hl=>by
  simp only[List.length_cons] at hl
  rw[List.zipIdx_cons,List.foldl_cons,z4r off xs (k+1) _ (by simp only[Array.size_setIfInBounds];omega)]
  have hlt:off+k < cur.toList.length:=by simp;omega
  simp only[Array.toList_setIfInBounds,List.length_cons]
  have e1:(cur.toList.set (off+k) x).take (off+(k+1))=cur.toList.take (off+k)++[x]:=by
   rw[← Nat.add_assoc,List.take_succ_eq_append_getElem (by simpa using hlt),List.getElem_set_self,List.take_set_of_le (Nat.le_refl _)]
  have e2:(cur.toList.set (off+k) x).drop (off+(k+1)+xs.length)=cur.toList.drop (off+k+(xs.length+1)):=by
   rw[List.drop_set_of_lt (by omega)];congr 1;omega
  rw[e1,e2];simp
def zn5 (place:Nat→Option (Nat×Nat)):List AV→List (Nat×AV)→Option (List AV)
 | cs,[]=>some cs
 | cs,(i,x)::rest=>match place i,cellsOf x with
  | some (off,n),some ys=>if ys.length=n∧off+n≤cs.length then zn5 place (cs.take off++ys++cs.drop (off+n)) rest else none
  | _,_=>none
omit h in
theorem zng {C:Cx} {place:Nat→Option (Nat×Nat)}:∀ (avs:List (Nat×AV)) (parts:List (Nat×Value)) (cs cs':List AV) (cells:Array Value),
  parts.length=avs.length→(∀ (i:Nat) (p:Nat×AV) (q:Nat×Value),avs[i]?=some p→parts[i]?=some q→p.1=q.1∧Rd C p.2 q.2)→Rds C cs cells.toList→zn5 place cs avs=some cs' →
  ∃ cells',Instr.fill place cells parts=some cells'∧Rds C cs' cells'.toList
 | [],[],cs,cs',cells,_,_,hr,hf=>by
  simp only[zn5,yy1] at hf;subst hf
  exact ⟨cells,rfl,hr⟩
 | (i,x)::avs,(k,v)::parts,cs,cs',cells,hlen,hp,hr,hf=>by
  obtain ⟨e1,e2⟩:=hp 0 _ _ rfl rfl
  simp only at e1 e2
  subst e1
  simp only[zn5] at hf
  split at hf
  ·rename_i off n ys h1 h2
   split at hf
   ·rename_i h3
    have hy:=z1o e2 h2
    have hn:v.cells.size=n:=by have:=hy.1;simp at this;omega
    have hcl:cells.size=cs.length:=by have:=hr.1;simpa using this
    have hf2:=z4r off v.cells.toList 0 cells (by simp;omega)
    obtain ⟨cells',h4,h5⟩:=zng avs parts _ cs' (v.cells.zipIdx.foldl (fun cs (p:Value×Nat)=>cs.setIfInBounds (off+p.2) p.1) cells) (by simpa using hlen)
     (fun i p q hi hj=>hp (i+1) p q (by simpa using hi) (by simpa using hj)) (by
      rw[← Array.foldl_toList,Array.toList_zipIdx,hf2]
      simp only[Nat.add_zero,Array.length_toList,hn]
      exact ((hr.take off).append hy).append (hr.drop _)) hf
    refine ⟨cells',?_,h5⟩
    simp only[Instr.fill,h1,hn]
    rw[if_neg]
    ·exact h4
    ·simp;omega
   ·cases hf
  ·cases hf
 | [],_::_,_,_,_,hlen,_,_,_=>by simp at hlen
 | _::_,[],_,_,_,hlen,_,_,_=>by simp at hlen
def zact (P:Program) (T:TypeId):Option ((Nat→Option (Nat×Nat))×Value) :=
 match P.info? T,P.underlying T with
 | some it,some (.array _ e)=>match it.zero,P.info? e with
  | some z,some ie=>some (fun i=>some (i*ie.size,ie.size),z)
  | _,_=>none
 | some it,some (.struct fields)=>match it.zero,fields.toList.mapM (fun f=>(P.info? f.type).map fun i=>(f.offset,i.size)) with
  | some z,some pl=>some ((pl.toArray[·]?),z)
  | _,_=>none
 | _,_=>none
omit h in
theorem z77 {T:TypeId} {pl:Nat→Option (Nat×Nat)} {z:Value} (hp:zact P T=some (pl,z)) (parts:List (Nat×Value)):P.built T parts=Instr.fill pl z.cells parts:=by
 unfold zact at hp
 unfold Program.built
 split at hp
 ·rename_i it n e h1 h2
  simp only[h1,h2]
  split at hp
  ·rename_i z' ie h3 h4
   simp only[yy1,Prod.mk.injEq] at hp
   obtain ⟨rfl,rfl⟩:=hp
   simp only[h3,h4]
  ·cases hp
 ·rename_i it fs h1 h2
  simp only[h1,h2]
  split at hp
  ·rename_i z' ie h3 h4
   simp only[yy1,Prod.mk.injEq] at hp
   obtain ⟨rfl,rfl⟩:=hp
   simp only[h3,h4]
  ·cases hp
 ·cases hp
theorem zaeo {o:Oper} {T:TypeId} {parts:Array (Nat×Operand)} {e:Operand→Value} {g:Operand→AV} {pl:Nat→Option (Nat×Nat)} {z:Value} {cs:List AV} (ho:o.op=.build T parts)
  (hg:∀ x,Rd (cx G blks nu w) (g x) (e x)) (hp:zact P T=some (pl,z)) (hf:zn5 pl (z.cells.toList.map .val) (parts.toList.map fun p=>(p.1,g p.2))=some cs) :
  Does P o e w (zf1 G blks nu w ⟨[],.agg cs,[]⟩):=by
 obtain ⟨cells,h1,h2⟩:=zng (C:=cx G blks nu w) (parts.toList.map fun p=>(p.1,g p.2)) (parts.toList.map fun p=>(p.1,e p.2)) _ cs z.cells (by simp)
  (fun i p q hi hj=>by
   rw[List.getElem?_map] at hi hj
   cases hk:parts.toList[i]? with
   | none=>rw[hk] at hi;cases hi
   | some r =>
    rw[hk] at hi hj
    simp only[Option.map_some,yy1] at hi hj
    subst hi;subst hj
    exact ⟨rfl,hg _⟩) (zpg _ _) hf
 have hb:P.built T (parts.map fun (i,x)=>(i,e x)).toList=some cells:=by
  rw[z77 hp];simpa using h1
 refine Does.value (v:=.agg cells) (w':=w) ?_ (zam h ?_)
 ·simp only[execOp,ho,Sem.run_bind,run_build w T _ cells hb,Result.andThen_ok,Sem.run_pure]
 ·have:Rd (cx G blks nu w) (.agg cs) (.agg cells.toList.toArray):=.agg h2.1 h2.2
  simpa using this
end sound
section sound
variable {P:Program} {G:Gl} {blks:List Blk} {nu:Nat→Option Value} {w:World} (h:MInv G blks nu w)
include h
theorem zaew {o:Oper} {op:BinOp} {T U:TypeId} {x y:Operand} {e:Operand→Value} {u v r:Value} (ho:o.op=.binOp op T x y U)
  (hx:Rd (cx G blks nu w) (.val u) (e x)) (hy:Rd (cx G blks nu w) (.val v) (e y))
  (hr:zi P (do eqGuard op T x y u v;binOp op T u v)=some r):Does P o e w (zf1 G blks nu w ⟨[],.val r,[]⟩):=by
 generalize hv:e x=a at hx
 generalize hw:e y=b at hy
 cases hx;cases hy
 refine Does.value (v:=r) (w':=w) ?_ (zam h .val)
 have:=zj hr w
 simp only[execOp,ho,hv,hw]
 rw[Sem.run_bind,this];rfl
theorem zaa3 {o:Oper} {T U:TypeId} {x y:Operand} {e:Operand→Value} {u v:ByteArray} (ho:o.op=.binOp .add T x y U)
  (hx:Rd (cx G blks nu w) (.s u) (e x)) (hy:Rd (cx G blks nu w) (.s v) (e y)) (hr:u.size+v.size≤9223372036854775807) :
  Does P o e w (zf1 G blks nu w ⟨[u.size+v.size≤9223372036854775807],.s (u++v),[]⟩):=by
 generalize hv:e x=a at hx
 generalize hw:e y=b at hy
 cases hx;cases hy
 refine Does.value (v:=.string (u++v)) (w':=w) ?_ ⟨nu,.refl _,h,.val⟩
 have hb:¬ (((u.size+v.size:Nat):Int) > IntKind.i64.max):=by
  have:IntKind.i64.max=9223372036854775807:=by decide
  rw[this];omega
 simp only[execOp,ho,hv,hw,eqGuard,binOp,Op.stringOp,if_neg hb]
 rfl
theorem zakp {o:Oper} {T U:TypeId} {x y:Operand} {e:Operand→Value} {k:IntKind} {u v:Int} (ho:o.op=.binOp .quo T x y U)
  (hx:Rd (cx G blks nu w) (.val (.int k u)) (e x)) (hy:Rd (cx G blks nu w) (.val (.int k v)) (e y)) (hr:v≠0) :
  ∀ ob,Does P o e w (zf1 G blks nu w ⟨ob,.val (.int k (k.wrap (u.tdiv v))),[]⟩):=by
 intro ob
 generalize hv:e x=a at hx
 generalize hw:e y=b at hy
 cases hx;cases hy
 refine Does.value (v:=.int k (k.wrap (u.tdiv v))) (w':=w) ?_ ⟨nu,.refl _,h,.val⟩
 simp[execOp,ho,hv,hw,eqGuard,binOp,Op.intDiv,hr]
theorem zakq {o:Oper} {T U:TypeId} {x y:Operand} {e:Operand→Value} {k:IntKind} {u v:Int} (ho:o.op=.binOp .rem T x y U)
  (hx:Rd (cx G blks nu w) (.val (.int k u)) (e x)) (hy:Rd (cx G blks nu w) (.val (.int k v)) (e y)) (hr:v≠0) :
  ∀ ob,Does P o e w (zf1 G blks nu w ⟨ob,.val (.int k (u.tmod v)),[]⟩):=by
 intro ob
 generalize hv:e x=a at hx
 generalize hw:e y=b at hy
 cases hx;cases hy
 refine Does.value (v:=.int k (u.tmod v)) (w':=w) ?_ ⟨nu,.refl _,h,.val⟩
 simp[execOp,ho,hv,hw,eqGuard,binOp,Op.intDiv,hr]
theorem zahh {o:Oper} {op:UnOp} {T:TypeId} {x:Operand} {e:Operand→Value} {u r:Value} (ho:o.op=.unOp op T x)
  (hx:Rd (cx G blks nu w) (.val u) (e x)) (hr:zi P (Op.unary op u)=some r):Does P o e w (zf1 G blks nu w ⟨[],.val r,[]⟩):=by
 generalize hv:e x=a at hx
 cases hx
 refine Does.value (v:=r) (w':=w) ?_ (zam h .val)
 have:=zj hr w
 simp[execOp,ho,hv,this]
theorem z8l {o:Oper} {T U:TypeId} {x:Operand} {e:Operand→Value} {u r:Value} (ho:o.op=.convert T U x)
  (hx:Rd (cx G blks nu w) (.val u) (e x)) (hr:zi P (convert T U u)=some r):Does P o e w (zf1 G blks nu w ⟨[],.val r,[]⟩):=by
 generalize hv:e x=a at hx
 cases hx
 refine Does.value (v:=r) (w':=w) ?_ (zam h .val)
 have:=zj hr w
 simp[execOp,ho,hv,this]
theorem z8m {o:Oper} {b:Builtin} {xs:Array Operand} {ats:Array TypeId} {e:Operand→Value} {us:List Value} {g:Operand→AV} {r:Value}
  (ho:o.op=.call { callee:=.builtin b,args:=xs,argTypes:=ats }) (hg:∀ x,Rd (cx G blks nu w) (g x) (e x)) (hu:xs.toList.map g=us.map .val)
  (hr:zi P (builtin b ats o.type (xs.map fun | .const _=>true | _=>false) us.toArray)=some (.value r)):Does P o e w (zf1 G blks nu w ⟨[],.val r,[]⟩):=by
 have he:xs.map e=us.toArray:=by
  apply Array.toList_inj.1
  simp only[Array.toList_map]
  clear hr ho
  generalize xs.toList=l at hu ⊢
  induction l generalizing us with
  | nil=>cases us<;>simp_all
  | cons x l ih =>
   cases us with
   | nil=>simp at hu
   | cons u us =>
    simp only[List.map_cons,List.cons.injEq] at hu
    have h1:=hg x
    rw[hu.1] at h1
    generalize hv:e x=a at h1
    cases h1
    simp only[List.map_cons,hv,ih hu.2]
 refine Does.value (v:=r) (w':=w) ?_ (zam h .val)
 have:=zj hr w
 simp only[execOp,ho,resolve,he]
 rw[Sem.run_bind,Sem.run_pure,Result.andThen_ok]
 exact this
theorem zakr {o:Oper} {x:Operand} {ats:Array TypeId} {T E:TypeId} {e:Operand→Value} {s:Sl} {c:AV}
  (ho:o.op=.call { callee:=.builtin .len,args:=#[x],argTypes:=ats }) (ha:ats[0]?=some T) (hT:P.underlying T=some (.slice E))
  (hx:Rd (cx G blks nu w) c (e x)) (hc:c=.sl s∨∃ j F,c=.own j∧(blks.getD j .dead=.rows F s∨blks.getD j .dead=.pub s)) :
  Does P o e w (zf1 G blks nu w ⟨[],.i s.len,[]⟩):=by
 have main:∃ a cap,e x=.slice a s.len cap:=by
  rcases hc with rfl | ⟨j,F,rfl,hj⟩
  ·generalize hv:e x=v at hx
   cases hx with
   | slnil h0=>exact ⟨none,_,by rw[h0]⟩
   | sl a cap=>exact ⟨_,_,rfl⟩
  ·generalize hv:e x=v at hx
   cases hx with
   | own hn =>
    have hk:=h.ok j
    rcases hj with hj | hj
    ·rw[hj] at hk
     obtain ⟨u,vs,e1,e2,_⟩:=hk
     have:=hn.symm.trans e1
     simp at this;subst this
     rcases e2.2 with ⟨e3,e4⟩ | ⟨g,cap,cur,e3,_⟩
     ·exact ⟨none,0,by rw[e3,e4]⟩
     ·exact ⟨_,_,e3⟩
    ·rw[hj] at hk
     obtain ⟨u,e1,e2⟩:=hk
     have:=hn.symm.trans e1
     simp at this;subst this
     cases e2 with
     | slnil h0=>exact ⟨none,_,by rw[h0]⟩
     | sl a cap=>exact ⟨_,_,rfl⟩
 obtain ⟨a,cap,hv⟩:=main
 refine Does.value (v:=.int .i64 s.len) (w':=w) ?_ (zam h .val)
 have e1:(Builtin.len_ ats o.type #[e x]).run P w=.ok (.int .i64 s.len) w:=by
  simp[Builtin.len_,ha,hv,run_underlying hT,goInt]
 simp only[execOp,ho,resolve,List.map_toArray,List.map_cons,List.map_nil]
 rw[Sem.run_bind,Sem.run_pure,Result.andThen_ok]
 simp only[invoke,BigFrame.builtin_len,Sem.run_bind,e1,Result.andThen_ok,Sem.run_pure]
theorem zvp {o:Oper} {T E:TypeId} {x y:Operand} {e:Operand→Value} {s:Sl} {k:IntKind} {i:Int} (ho:o.op=.indexAddr T x y)
  (hx:Rd (cx G blks nu w) (.sl s) (e x)) (hy:Rd (cx G blks nu w) (.val (.int k i)) (e y)) (hT:P.underlying T=some (.slice E)) (hn:zi P (sizeOf E)=some s.sz)
  (hi:0≤i∧i < s.len):Does P o e w (zf1 G blks nu w ⟨[0≤i∧i < s.len],.eptr s i.toNat 0,[]⟩):=by
 generalize hv:e x=v at hx
 generalize hw:e y=b at hy
 cases hy
 cases hx with
 | slnil h0=>omega
 | sl a cap g hm hc hcell hL hrd =>
  have h0:0 < s.len:=by omega
  have hsp:a.spot=none:=by
   have h1:=hcell 0 0 h0 (zpl s)
   simp only[Nat.zero_mul,Nat.add_zero] at h1
   have e0:a.add 0=a:=by simp[Addr.add]
   rw[e0] at h1
   unfold World.cell? at h1
   split at h1
   ·split at h1
    ·cases h1
    ·rename_i h2;simpa using h2
   ·cases h1
  refine Does.value (v:=.pointer (some (a.add (i.toNat*s.sz)))) (w':=w) ?_ ⟨nu,.refl _,h,.eptr _ (fun c=>g i.toNat c) (zacs a hsp _) (fun _=>by rw[zan];exact hL h0) (fun c hc=>?_) (fun c hc=>?_)⟩
  ·simp[execOp,ho,hv,hw,Instr.indexAt,asIntOf,run_underlying hT,hi,zj hn w]
  ·rw[zaaq a hsp];exact hcell i.toNat c (by omega) (by omega)
  ·have:=hrd i.toNat c (by omega) (by omega)
   rwa [Nat.zero_add]
theorem z6q {o:Oper} {T E:TypeId} {x y:Operand} {e:Operand→Value} {j off n len:Nat} {k:IntKind} {i:Int} (ho:o.op=.indexAddr T x y)
  (hx:Rd (cx G blks nu w) (.ptr j off) (e x)) (hy:Rd (cx G blks nu w) (.val (.int k i)) (e y)) (hT:P.underlying T=some (.array len E)) (hn:zi P (sizeOf E)=some n)
  (hi:0≤i∧i < len):Does P o e w (zf1 G blks nu w ⟨[],.ptr j (off+i.toNat*n),[]⟩):=by
 generalize hv:e x=v at hx
 generalize hw:e y=b at hy
 cases hy
 cases hx with
 | @ptr _ _ b hb =>
  refine Does.value (v:=.pointer (some ((⟨b,off,none⟩:Addr).add (i.toNat*n)))) (w':=w) ?_ (zam h (by rw[z7];exact .ptr hb))
  simp[execOp,ho,hv,hw,Instr.indexAt,asIntOf,run_underlying hT,hi,Instr.sureAddr,zj hn w]
theorem z6r {o:Oper} {T E:TypeId} {x y:Operand} {e:Operand→Value} {cs:List AV} {len:Nat} {k:IntKind} {i:Int} {t:Bool} {n:Nat} (ho:o.op=.index T x y)
  (hx:Rd (cx G blks nu w) (.agg cs) (e x)) (hy:Rd (cx G blks nu w) (.val (.int k i)) (e y)) (hT:P.underlying T=some (.array len E)) (ht:zi P (isAgg E)=some t) (hn:zi P (sizeOf E)=some n)
  (hi:0≤i∧i < len) (h1:t=false→n=1) (hl:((cs.drop (i.toNat*n)).take n).length=n):Does P o e w (zf1 G blks nu w ⟨[],zm8 t ((cs.drop (i.toNat*n)).take n),[]⟩):=by
 generalize hv:e x=v at hx
 generalize hw:e y=b at hy
 cases hy
 cases hx with
 | @agg _ vs hvl hh =>
  have hr:Rds (cx G blks nu w) ((cs.drop (i.toNat*n)).take n) ((vs.drop (i.toNat*n)).take n):=((Rds.mk hvl hh).drop _).take n
  refine Does.value (v:=if t then .agg ((vs.drop (i.toNat*n)).take n).toArray else ((vs.drop (i.toNat*n)).take n).getD 0 undef) (w':=w) ?_ (zam h (zic hr (fun ht=>by rw[hl];exact h1 ht)))
  cases t with
  | true =>
   have e1:vs.toArray.extract (i.toNat*n) (i.toNat*n+n)=((vs.drop (i.toNat*n)).take n).toArray:=by
    simp[List.extract_eq_take_drop]
   simp[execOp,ho,hv,hw,Instr.index,asIntOf,run_underlying hT,hi,part,zj ht w,zj hn w,e1]
  | false =>
   have hn1:=h1 rfl
   subst hn1
   have hlt:i.toNat < vs.length:=by have:=hr.1;rw[hl] at this;simp at this;omega
   have e2:vs[i.toNat]?=some vs[i.toNat]:=yy3 hlt
   have e3:((vs.drop (i.toNat*1)).take 1).getD 0 undef=vs[i.toNat]:=by
    rw[yy0,List.getElem?_take_of_lt (by omega),List.getElem?_drop,Nat.mul_one,Nat.add_zero,e2];rfl
   simp only[Bool.false_eq_true,if_false,e3]
   simp[execOp,ho,hv,hw,Instr.index,asIntOf,run_underlying hT,hi,part,zj ht w,zj hn w,e2]
theorem z6s {o:Oper} {f:FuncId} {caps:Array Operand} {e:Operand→Value} {g:Operand→AV} (ho:o.op=.makeFunc (.func f) #[] caps) (hg:∀ x,Rd (cx G blks nu w) (g x) (e x)) :
  Does P o e w (zf1 G blks nu w ⟨[],.fn f (caps.toList.map g),[]⟩):=by
 refine Does.value (v:=.func (.func f) #[] (caps.toList.map e).toArray) (w':=w) ?_ (zam h (.fn (by simp) (fun i hi=>?_)))
 ·have e1:Array.map e caps=(List.map e caps.toList).toArray:=by rw[← Array.toList_map]
  simp[execOp,ho,Instr.makeFunc,e1]
 ·have hi':i < caps.toList.length:=by simpa using hi
  rw[yy0,yy0,List.getElem?_map,List.getElem?_map,yy3 hi']
  exact hg _
end sound
def z6t (P:Program) (f:FuncId):Bool :=
 match P.funcs[f]? with
 | some fn => fn.body.isSome && !(fn.name == "runtime.NumGoroutine")
 | none=>false
def zg (P:Program) (f:FuncId) (F:Spec):Prop :=
 ∀ (G:Gl) (blks:List Blk) (nu:Nat→Option Value) (w:World),MInv G blks nu w→∀ (args:List AV) (vs:List Value),Rds (cx G blks nu w) args vs →
  ∀ bk:Nat→Blk,(∀ j,bk j=blks.getD j .dead∨bk j=.dead)→∀ id r,F args bk id=some r→zuz r.obl→Calls P f vs.toArray w fun x w'=>∃ v,x=.returned v∧zf1 G blks nu w r v w'
theorem zahi {P:Program} {G:Gl} {blks:List Blk} {nu:Nat→Option Value} {w:World} (h:MInv G blks nu w) {o:Oper} {y:Operand} {xs:Array Operand} {ats:Array TypeId} {e:Operand→Value} {g:Operand→AV}
  {f:FuncId} {caps:List AV} {F:Spec} {r:Res} {bk:Nat→Blk} {id:Nat} (hbk:∀ j,bk j=blks.getD j .dead∨bk j=.dead)
  (ho:o.op=.call { callee:=.value y,args:=xs,argTypes:=ats }) (hg:∀ x,Rd (cx G blks nu w) (g x) (e x)) (hy:g y=.fn f caps) (hf:z6t P f=true) (hF:zg P f F)
  (hr:F (xs.toList.map g++caps) bk id=some r) (hobl:zuz r.obl):Does P o e w (zf1 G blks nu w r):=by
 have h1:=hg y
 rw[hy] at h1
 generalize hv:e y=v at h1
 cases h1 with
 | @fn _ _ vs hl hh =>
  have hargs:Rds (cx G blks nu w) (xs.toList.map g++caps) (xs.toList.map e++vs):=by
   refine Rds.append (Rds.of_get (by simp) (fun i c u h1 h2=>?_)) (Rds.mk hl hh)
   rw[List.getElem?_map] at h1 h2
   cases hk:xs.toList[i]? with
   | none=>rw[hk] at h1;cases h1
   | some z =>
    rw[hk] at h1 h2
    simp only[Option.map_some,yy1] at h1 h2
    subst h1;subst h2
    exact hg z
  refine Does.enter (w':=w) ?_ (hF G blks nu w h _ _ hargs bk hbk id r hr hobl)
  unfold z6t at hf
  split at hf
  ·rename_i fn hfn
   simp only[yy7,Bool.not_eq_true'] at hf
   have hn:fn.body.isNone=false:=by rw[Option.isNone_eq_false_iff];exact hf.1
   have hne : ¬ fn.name = "runtime.NumGoroutine" := by simpa using hf.2
   have hnb:¬ fn.body=none:=by intro e;rw[e] at hn;cases hn
   simp[execOp,ho,resolve,hv,Deferred.ofValue,invoke,callFunc,hfn,hne,hnb]
  ·cases hf
def AV.one:AV→Bool
 | .val (.int ..) | .val (.bool _) | .val (.string _) | .sl _=>true
 | _=>false
theorem zasf {C:Cx} {x:AV} {v:Value} (hx:x.one=true) (h:Rd C x v):v.oneCell'=true:=by
 cases h with
 | any=>cases hx
 | val=>cases v<;>first | rfl | cases hx
 | slnil h0=>rfl
 | sl=>rfl
 | _=>cases hx
theorem zaj7 (s:Sl) (k c:Nat) (hc:c < s.sz):(s.cell k c).one=true:=by
 have hall:(s.row k).all AV.one=true:=by cases s<;>rfl
 unfold Sl.cell
 rw[yy0,yy3 (by rw[Sl.row_length];exact hc)]
 exact List.all_eq_true.1 hall _ (List.getElem_mem _)
theorem zkz {α:Type} {l m:List α} {d:α} {k:Nat} (h:k < l.length):(l++m).getD k d=l.getD k d:=by
 rw[yy0,List.getElem?_append_left h,← yy0]
theorem zze {α:Type} {l m:List α} {d:α} {k:Nat}:(l++m).getD (l.length+k) d=m.getD k d:=by
 rw[yy0,List.getElem?_append_right (by omega),Nat.add_sub_cancel_left,← yy0]
theorem zacu {s t r:Sl} (h:s.app t=some r):r.len=s.len+t.len∧r.sz=s.sz∧t.sz=s.sz∧(∀ k c,k < s.len→r.cell k c=s.cell k c)∧(∀ k c,r.cell (s.len+k) c=t.cell k c):=by
 cases s<;>cases t<;>simp only[Sl.app,yy1,reduceCtorEq] at h<;>subst h
 all_goals
  refine ⟨by simp[Sl.len],rfl,rfl,fun k c hk=>?_,fun k c=>?_⟩
  ·simp only[Sl.len] at hk
   simp only[Sl.cell,Sl.row]
   rw[zkz hk]
  ·simp only[Sl.cell,Sl.row,Sl.len]
   rw[zze]
def Src (C:Cx) (t:Sl) (v:Value):Prop :=
 ∃ news:List Value,news.length=t.len*t.sz∧(∀ k c,k < t.len→c < t.sz→Rd C (t.cell k c) (news.getD (k*t.sz+c) undef)) ∧
  ((v=.slice none 0 0∧t.len=0)∨∃ a c,v=.slice (some a) t.len c∧∀ j u,news[j]?=some u→C.w.cell? (a.add j)=some u)
theorem zanh {C:Cx} {t:Sl} {v:Value} (h:Rd C (.sl t) v):Src C t v:=by
 cases h with
 | slnil h0=>exact ⟨[],by simp[h0],fun k c hk=>by omega,.inl ⟨rfl,h0⟩⟩
 | sl a cap g hm hc hcell hL hrd =>
  have hz:=zpl t
  have hdec:∀ j,j < t.len*t.sz→j / t.sz < t.len∧j % t.sz < t.sz∧(j / t.sz)*t.sz+j % t.sz=j:=fun j hj =>
   ⟨Nat.div_lt_of_lt_mul (by rw[Nat.mul_comm];exact hj),Nat.mod_lt _ hz,Nat.div_add_mod' j t.sz⟩
  refine ⟨(List.range (t.len*t.sz)).map fun j=>g (j / t.sz) (j % t.sz),by simp,fun k c hk hcc=>?_,.inr ⟨a,cap,rfl,fun j u hj=>?_⟩⟩
  ·have hlt:k*t.sz+c < t.len*t.sz:=by
    calc k*t.sz+c < k*t.sz+t.sz:=by omega
     _=(k+1)*t.sz:=by rw[Nat.add_mul,Nat.one_mul]
     _≤t.len*t.sz:=Nat.mul_le_mul_right _ hk
   have e1:(k*t.sz+c) / t.sz=k:=by rw[Nat.mul_comm,Nat.mul_add_div hz,Nat.div_eq_of_lt hcc,Nat.add_zero]
   have e2:(k*t.sz+c) % t.sz=c:=by rw[Nat.mul_comm,Nat.mul_add_mod,Nat.mod_eq_of_lt hcc]
   rw[yy0,List.getElem?_map,List.getElem?_range hlt]
   simp only[Option.map_some,yy2,e1,e2]
   exact hrd k c hk hcc
  ·rw[List.getElem?_map] at hj
   by_cases hlt:j < t.len*t.sz
   ·rw[List.getElem?_range hlt] at hj
    simp only[Option.map_some,yy1] at hj
    subst hj
    obtain ⟨h1,h2,h3⟩:=hdec j hlt
    have:=hcell (j / t.sz) (j % t.sz) h1 h2
    rwa [h3] at this
   ·rw[List.getElem?_eq_none (by simpa using hlt)] at hj;cases hj
theorem zaj8 {C:Cx} {base:Nat} {E:TypeId} {t:Sl} {v:Value} {vs:List Value} (h:C.w.ownsRow base E t.sz v t.len vs) (hrd:∀ k c,k < t.len→c < t.sz→Rd C (t.cell k c) (vs.getD (k*t.sz+c) undef)):Src C t v:=by
 refine ⟨vs,h.1,hrd,?_⟩
 rcases h.2 with ⟨rfl,h0⟩ | ⟨g,cap,cur,rfl,_⟩
 ·exact .inl ⟨rfl,h0⟩
 ·exact .inr ⟨_,cap,rfl,h.cells rfl⟩
theorem zp7 {v:Value} {w:World} {base:Nat} {E:TypeId} {sz n:Nat} {xs:List Value} (h:w.ownsRow base E sz v n xs):zcu v=v.ownBlock:=by
 rcases h.2 with ⟨rfl,_⟩ | ⟨g,cap,cur,rfl,_⟩<;>rfl
theorem MInv.putRow {G:Gl} {blks blks1:List Blk} {nu:Nat→Option Value} {w w':World} (h:MInv G blks nu w) {id:Nat} {E:TypeId} {s:Sl} {v:Value} {vs:List Value} {old:Option Nat} {row:Option Nat}
  (hf:blks.getD id .dead=.free) (hlen:blks1.length=blks.length)
  (h1:∀ i,i≠id→old≠some i→blks1.getD i .dead=blks.getD i .dead) (h2:∀ j,old=some j→j≠id∧blks1.getD j .dead=.dead∧(blks.getD j .dead).live=true)
  (hown:w'.ownsRow 0 E s.sz v s.len vs) (hm:s.len≤maxLen)
  (hrd:∀ C',(cx G blks nu w).Le C'→∀ k c,k < s.len→c < s.sz→Rd C' (s.cell k c) (vs.getD (k*s.sz+c) undef))
  (hg:w.grownBy w' row) (hrow:∀ b,row=some b→∃ j u,old=some j∧nu j=some u∧zcu u=some b)
  (hat:zcu v=row∨∀ b,zcu v=some b→w.heap.size≤b) :
  ∃ nu',(cx G blks nu w).Le (cx G (blks1.set id (.rows E s)) nu' w')∧MInv G (blks1.set id (.rows E s)) nu' w'∧nu' id=some v:=by
 have hd:nu id=none:=by have:=h.ok id;rw[hf] at this;exact this
 have hid:id < blks1.length:=by
  rw[hlen]
  rcases Nat.lt_or_ge id blks.length with h3 | h3
  ·exact h3
  ·rw[yy0,List.getElem?_eq_none h3] at hf;cases hf
 refine ⟨fun i=>if i=id then some v else nu i,?_⟩
 have:=h.step (w':=w') (blks':=blks1.set id (.rows E s)) (nu':=fun i=>if i=id then some v else nu i) (fun i=>i=id∨old=some i)
  (fun i u hi=>by
   by_cases e:i=id
   ·rw[e,hd] at hi;cases hi
   ·simp only[e,if_false];exact hi)
  (fun b hb hn=>hg.block b hb fun e=>by
   obtain ⟨j,u,e1,e2,e3⟩:=hrow b e.symm
   exact hn j u (.inr e1) (h2 j e1).2.2 e2 (zwf e3))
  hg.size hg.os hg.tape hg.output
  (fun i hi=>by
   have hi1:i≠id:=fun e=>hi (.inl e)
   rw[getD_set_ne (fun e=>hi1 e.symm)]
   exact h1 i hi1 fun e=>hi (.inr e))
  (fun i hi=>by simp[show i≠id from fun e=>hi (.inl e)])
  (fun hle i hi=>by
   by_cases e:i=id
   ·subst e
    rw[zp hid]
    exact ⟨v,vs,by simp[cx],hown,hrd _ hle,hm⟩
   ·rcases hi with hi | hi
    ·exact absurd hi e
    ·rw[getD_set_ne (fun q=>e q.symm),(h2 i hi).2.1];trivial)
  (fun i u b hi hl hv hb=>by
   by_cases e:i=id
   ·subst e
    simp only[if_true,yy1] at hv
    subst hv
    have hb:=(zakg hown).1 hb
    have hlt:=(hown.lt b (by rw[← zp7 hown];exact hb)).2
    refine ⟨hlt,?_⟩
    rcases hat with h3 | h3
    ·obtain ⟨j,u,e1,e2,e3⟩:=hrow b (h3 ▸ hb)
     exact .inr ⟨j,u,.inr e1,(h2 j e1).2.2,e2,zwf e3⟩
    ·exact .inl (h3 b hb)
   ·rcases hi with hi | hi
    ·exact absurd hi e
    ·rw[getD_set_ne (fun q=>e q.symm),(h2 i hi).2.1] at hl;cases hl)
  (fun i i' u u' b hne hi hi' hl hl'=>by
   by_cases e:i=id
   ·by_cases e':i'=id
    ·exact absurd (e.trans e'.symm) hne
    ·rcases hi' with hi' | hi'
     ·exact absurd hi' e'
     ·rw[getD_set_ne (fun q=>e' q.symm),(h2 i' hi').2.1] at hl';cases hl'
   ·rcases hi with hi | hi
    ·exact absurd hi e
    ·rw[getD_set_ne (fun q=>e q.symm),(h2 i hi).2.1] at hl;cases hl)
 exact ⟨this.1,this.2,by simp⟩
def zn6 (P:Program) (t:TypeId):Option (TypeId×Nat×Nat) :=
 match P.underlying t with
 | some (.slice E)=>match P.info? E with
  | some i=>match i.zero with
   | some z=>if z.cells.size=i.size∧0 < i.bytes then some (E,i.size,i.bytes) else none
   | none=>none
  | none=>none
 | _=>none
theorem zl6 {P:Program} {t E:TypeId} {sz bytes:Nat} (h:zn6 P t=some (E,sz,bytes)) :
  P.underlying t=some (.slice E)∧∃ i z,P.info? E=some i∧i.zero=some z∧z.cells.size=i.size∧i.size=sz∧i.bytes=bytes∧0 < bytes:=by
 unfold zn6 at h
 split at h
 ·rename_i E' hE
  split at h
  ·rename_i i hi
   split at h
   ·rename_i z hz
    split at h
    ·rename_i hc
     simp only[yy1,Prod.mk.injEq] at h
     obtain ⟨rfl,h1,h2⟩:=h
     exact ⟨hE,i,z,hi,hz,hc.1,h1,h2,h2 ▸ hc.2⟩
    ·cases h
   ·cases h
  ·cases h
 ·cases h
theorem z1q {P:Program} {G:Gl} {blks blks1:List Blk} {nu:Nat→Option Value} {w:World} (h:MInv G blks nu w) {o:Oper} {x y:Operand} {t:TypeId} {e:Operand→Value} {E:TypeId} {bytes:Nat}
  {s u r:Sl} {id:Nat} {old:Option Nat} (ho:o.op=.call { callee:=.builtin .append,args:=#[x,y],argTypes:=#[t,t] }) (hi:zn6 P t=some (E,s.sz,bytes)) (happ:s.app u=some r)
  {vs:List Value} (hown:w.ownsRow 0 E s.sz (e x) s.len vs) (hvs:∀ k c,k < s.len→c < s.sz→Rd (cx G blks nu w) (s.cell k c) (vs.getD (k*s.sz+c) undef))
  (hold:∀ b,zcu (e x)=some b→∃ j,old=some j∧nu j=some (e x)) (hsrc:Src (cx G blks nu w) u (e y))
  (hf:blks.getD id .dead=.free) (hlen:blks1.length=blks.length)
  (h1:∀ i,i≠id→old≠some i→blks1.getD i .dead=blks.getD i .dead) (h2:∀ j,old=some j→j≠id∧blks1.getD j .dead=.dead∧(blks.getD j .dead).live=true)
  (hob:(s.len+u.len)*bytes≤140737488355328) :
  Does P o e w fun v w'=>∃ nu',(cx G blks nu w).Le (cx G (blks1.set id (.rows E r)) nu' w')∧MInv G (blks1.set id (.rows E r)) nu' w'∧Rd (cx G (blks1.set id (.rows E r)) nu' w') (.own id) v:=by
 obtain ⟨hT,i,z,hi1,hz,hzs,hsz,hby,hpos⟩:=zl6 hi
 obtain ⟨news,hl,hrd,hcase⟩:=hsrc
 obtain ⟨a1,a2,a3,a4,a5⟩:=zacu happ
 have hsum:s.len+u.len≤140737488355328:=Nat.le_trans (Nat.le_mul_of_pos_right _ hpos) hob
 have hmax:s.len+u.len≤maxLen:=by unfold maxLen;omega
 have hz0:=zpl s
 have hread:∀ C',(cx G blks nu w).Le C'→∀ k c,k < r.len→c < r.sz→Rd C' (r.cell k c) ((vs++news).getD (k*r.sz+c) undef):=by
  intro C' hle k c hk hc
  rw[a2] at hc ⊢
  by_cases hks:k < s.len
  ·have hlt:k*s.sz+c < vs.length:=by
    rw[hown.1]
    calc k*s.sz+c < k*s.sz+s.sz:=by omega
     _=(k+1)*s.sz:=by rw[Nat.add_mul,Nat.one_mul]
     _≤s.len*s.sz:=Nat.mul_le_mul_right _ hks
   rw[zkz hlt,a4 k c hks]
   exact (hvs k c hks hc).mono hle
  ·obtain ⟨q,rfl⟩:∃ q,k=s.len+q:=⟨k - s.len,by omega⟩
   have e1:(s.len+q)*s.sz+c=vs.length+(q*s.sz+c):=by rw[hown.1,Nat.add_mul];omega
   rw[e1,zze,a5]
   have:=hrd q c (by omega) (by rw[a3];exact hc)
   rw[a3] at this
   exact this.mono hle
 have hrow:∀ b,zcu (e x)=some b→∃ j v,old=some j∧nu j=some v∧zcu v=some b:=fun b hb=>by
  obtain ⟨j,h3,h4⟩:=hold b hb
  exact ⟨j,_,h3,h4,hb⟩
 rcases hcase with ⟨hy,h0⟩ | ⟨a,c,hy,hcells⟩
 ·have hn:news=[]:=List.eq_nil_of_length_eq_zero (by rw[hl,h0,Nat.zero_mul])
  subst hn
  have hrun:=run_append_owned_none (P:=P) (w:=w) (ty:=o.type) 0 t E i s.sz hT hi1 (e x) s.len vs hown
  have hown':w.ownsRow 0 E r.sz (e x) r.len (vs++[]):=by
   rw[a2,a1,h0,Nat.add_zero,List.append_nil];exact hown
  obtain ⟨nu',k1,k2,k3⟩:=h.putRow (w':=w) (row:=zcu (e x)) hf hlen h1 h2 hown' (by rw[a1];exact hmax) hread ⟨rfl,rfl,rfl,Nat.le_refl _,fun _ _ _=>rfl⟩ hrow (.inl rfl)
  refine Does.value (v:=e x) (w':=w) ?_ ⟨nu',k1,k2,.own k3⟩
  simp[execOp,ho,resolve,invoke,builtin,hy,hrun,Result.andThen]
 ·obtain ⟨v',w',hrun,k1,k2,_,k4⟩:=run_append_own_at (P:=P) w 0 t o.type E i z s.sz bytes hT hi1 hz hsz hby (hzs.trans hsz) hz0 (e x) s.len vs hown a u.len c news (by rw[hl,a3]) hcells
   (fun q hq=>by
    obtain ⟨j,hj,rfl⟩:=List.getElem_of_mem hq
    rw[hl] at hj
    have hzu:=zpl u
    have hd1:j / u.sz < u.len:=Nat.div_lt_of_lt_mul (by rw[Nat.mul_comm];exact hj)
    have hd2:=Nat.mod_lt j hzu
    have:=hrd _ _ hd1 hd2
    rw[Nat.div_add_mod',yy0,yy3 (by rw[hl];exact hj)] at this
    exact zasf (zaj7 u _ _ hd2) this) hmax hob (Nat.zero_le _)
  have hown':w'.ownsRow 0 E r.sz v' r.len (vs++news):=by rw[a2,a1];exact k1
  obtain ⟨nu',k5,k6,k7⟩:=h.putRow (w':=w') (row:=zcu (e x)) hf hlen h1 h2 hown' (by rw[a1];exact hmax) hread (by rw[zp7 hown];exact k2) hrow
   (by
    rw[zp7 k1,zp7 hown]
    refine k4.imp (fun q=>q) (fun q b hb=>?_)
    rw[q] at hb
    simp only[yy1] at hb
    omega)
  refine Does.value (v:=v') (w':=w') ?_ ⟨nu',k5,k6,.own k7⟩
  simp[execOp,ho,resolve,invoke,builtin,hy,hrun,Result.andThen]
def aU:AV→Option Int
 | .val (.int .u8 n)=>some n
 | _=>none
theorem zayk {x:AV} {n:Int} (h:aU x=some n):x=.val (.int .u8 n):=by
 unfold aU at h;split at h
 ·cases h;rfl
 ·cases h
theorem zayl {x:AV} {n:Int} (h:aI x=some n):x=.i n:=by
 unfold aI at h;split at h
 ·cases h;rfl
 ·cases h
theorem zaym {x:AV} {n:ByteArray} (h:aS x=some n):x=.s n:=by
 unfold aS at h;split at h
 ·cases h;rfl
 ·cases h
theorem zayn {x:AV} {n:Bool} (h:aB x=some n):x=.b n:=by
 unfold aB at h;split at h
 ·cases h;rfl
 ·cases h
theorem zani {C:Cx} {x:AV} {l:List Power} {v:Value} (h:aPs x=some l) (hr:Rd C x v):Rd C (.sl (.powers l)) v:=by
 unfold aPs at h;split at h
 ·cases h;exact hr
 ·cases h;cases hr;exact .slnil rfl
 ·cases h
theorem zags {C:Cx} {x:AV} {l:List Int} {v:Value} (h:aIs x=some l) (hr:Rd C x v):Rd C (.sl (.ints l)) v:=by
 unfold aIs at h;split at h
 ·cases h;exact hr
 ·cases h;cases hr;exact .slnil rfl
 ·cases h
def Conv (C:Cx) (xs ys:List AV):Prop:=∀ vs,Rds C xs vs→Rds C ys vs
theorem zgq {C:Cx}:Conv C [] []:=fun _ h=>h
theorem zn {C:Cx} {x y:AV} {xs ys:List AV} (h:∀ v,Rd C x v→Rd C y v) (hs:Conv C xs ys):Conv C (x::xs) (y::ys):=fun vs hv=>by
 obtain ⟨v,vs',rfl,h1,h2⟩:=hv.uncons
 exact .cons (h v h1) (hs vs' h2)
theorem zaj9 {n:Int} (h:0≤n∧n < 256):(((UInt8.ofNat n.toNat).toNat:Nat):Int)=n:=by
 rw[UInt8.toNat_ofNat']
 omega
theorem zfn {C:Cx} {x:AV} {n:Int} {v:Value} (h:aI x=some n) (hr:Rd C x v):Rd C (.i n) v:=by rw[zayl h] at hr;exact hr
theorem zaow {C:Cx} {x:AV} {n:ByteArray} {v:Value} (h:aS x=some n) (hr:Rd C x v):Rd C (.s n) v:=by rw[zaym h] at hr;exact hr
theorem zasg {C:Cx} {x:AV} {n:Bool} {v:Value} (h:aB x=some n) (hr:Rd C x v):Rd C (.b n) v:=by rw[zayn h] at hr;exact hr
def z06:List AV→Option Power
 | [a,b]=>do pure ⟨← aI a,← aI b⟩
 | _=>none
theorem znh {cs:List AV} {p:Power} (h:z06 cs=some p):cs.length=2∧∀ C,Conv C cs p.cells:=by
 unfold z06 at h
 split at h
 ·simp only[bind,Option.bind_eq_some_iff,pure,yy1] at h
  obtain ⟨n0,h0,n1,h1,rfl⟩:=h
  exact ⟨rfl,fun C=>(zn (fun _ q=>zfn h0 q) (zn (fun _ q=>zfn h1 q) zgq))⟩
 ·cases h
def zxp:List AV→Option Packet
 | [a,b,c,d,p,q]=>do pure ⟨← aI a,← aI b,← aI c,← aI d,← aPs p,← aIs q⟩
 | _=>none
theorem zlv {cs:List AV} {p:Packet} (h:zxp cs=some p):cs.length=6∧∀ C,Conv C cs p.cells:=by
 unfold zxp at h
 split at h
 ·simp only[bind,Option.bind_eq_some_iff,pure,yy1] at h
  obtain ⟨n0,h0,n1,h1,n2,h2,n3,h3,n4,h4,n5,h5,rfl⟩:=h
  exact ⟨rfl,fun C=>(zn (fun _ q=>zfn h0 q) (zn (fun _ q=>zfn h1 q) (zn (fun _ q=>zfn h2 q) (zn (fun _ q=>zfn h3 q) (zn (fun _ q=>zani h4 q) (zn (fun _ q=>zags h5 q) zgq))))))⟩
 ·cases h
def z54:List AV→Option Wait
 | [a,b,c,d,e,f,g,j]=>do pure ⟨← aI a,← aI b,← aI c,← aI d,← aI e,← aI f,← aI g,← aI j⟩
 | _=>none
theorem zph {cs:List AV} {p:Wait} (h:z54 cs=some p):cs.length=8∧∀ C,Conv C cs p.cells:=by
 unfold z54 at h
 split at h
 ·simp only[bind,Option.bind_eq_some_iff,pure,yy1] at h
  obtain ⟨n0,h0,n1,h1,n2,h2,n3,h3,n4,h4,n5,h5,n6,h6,n7,h7,rfl⟩:=h
  exact ⟨rfl,fun C=>(zn (fun _ q=>zfn h0 q) (zn (fun _ q=>zfn h1 q) (zn (fun _ q=>zfn h2 q) (zn (fun _ q=>zfn h3 q) (zn (fun _ q=>zfn h4 q) (zn (fun _ q=>zfn h5 q) (zn (fun _ q=>zfn h6 q) (zn (fun _ q=>zfn h7 q) zgq))))))))⟩
 ·cases h
def z07:List AV→Option Asked
 | [x,a,b,c,d,p,q]=>do pure ⟨← aI x,⟨← aI a,← aI b,← aI c,← aI d,← aPs p,← aIs q⟩⟩
 | _=>none
theorem zni {cs:List AV} {p:Asked} (h:z07 cs=some p):cs.length=7∧∀ C,Conv C cs p.cells:=by
 unfold z07 at h
 split at h
 ·simp only[bind,Option.bind_eq_some_iff,pure,yy1] at h
  obtain ⟨n0,h0,n1,h1,n2,h2,n3,h3,n4,h4,n5,h5,n6,h6,rfl⟩:=h
  exact ⟨rfl,fun C=>(zn (fun _ q=>zfn h0 q) (zn (fun _ q=>zfn h1 q) (zn (fun _ q=>zfn h2 q) (zn (fun _ q=>zfn h3 q) (zn (fun _ q=>zfn h4 q) (zn (fun _ q=>zani h5 q) (zn (fun _ q=>zags h6 q) zgq)))))))⟩
 ·cases h
def z55:List AV→Option Ripe
 | [a,b]=>do pure ⟨← aI a,← aI b⟩
 | _=>none
theorem zpi {cs:List AV} {p:Ripe} (h:z55 cs=some p):cs.length=2∧∀ C,Conv C cs p.cells:=by
 unfold z55 at h
 split at h
 ·simp only[bind,Option.bind_eq_some_iff,pure,yy1] at h
  obtain ⟨n0,h0,n1,h1,rfl⟩:=h
  exact ⟨rfl,fun C=>(zn (fun _ q=>zfn h0 q) (zn (fun _ q=>zfn h1 q) zgq))⟩
 ·cases h
def z56:List AV→Option Deed
 | [a,b,c,d,e,f,g]=>do pure ⟨← aI a,← aI b,← aI c,← aI d,← aI e,← aB f,← aB g⟩
 | _=>none
theorem zpj {cs:List AV} {p:Deed} (h:z56 cs=some p):cs.length=7∧∀ C,Conv C cs p.cells:=by
 unfold z56 at h
 split at h
 ·simp only[bind,Option.bind_eq_some_iff,pure,yy1] at h
  obtain ⟨n0,h0,n1,h1,n2,h2,n3,h3,n4,h4,n5,h5,n6,h6,rfl⟩:=h
  exact ⟨rfl,fun C=>(zn (fun _ q=>zfn h0 q) (zn (fun _ q=>zfn h1 q) (zn (fun _ q=>zfn h2 q) (zn (fun _ q=>zfn h3 q) (zn (fun _ q=>zfn h4 q) (zn (fun _ q=>zasg h5 q) (zn (fun _ q=>zasg h6 q) zgq)))))))⟩
 ·cases h
def z08:List AV→Option Reply
 | [a,b]=>do pure ⟨← aI a,← aI b⟩
 | _=>none
theorem znj {cs:List AV} {p:Reply} (h:z08 cs=some p):cs.length=2∧∀ C,Conv C cs p.cells:=by
 unfold z08 at h
 split at h
 ·simp only[bind,Option.bind_eq_some_iff,pure,yy1] at h
  obtain ⟨n0,h0,n1,h1,rfl⟩:=h
  exact ⟨rfl,fun C=>(zn (fun _ q=>zfn h0 q) (zn (fun _ q=>zfn h1 q) zgq))⟩
 ·cases h
def z09:List AV→Option Order
 | [a,b,c,d,e]=>do pure ⟨← aI a,← aI b,← aI c,← aI d,← aI e⟩
 | _=>none
theorem znk {cs:List AV} {p:Order} (h:z09 cs=some p):cs.length=5∧∀ C,Conv C cs p.cells:=by
 unfold z09 at h
 split at h
 ·simp only[bind,Option.bind_eq_some_iff,pure,yy1] at h
  obtain ⟨n0,h0,n1,h1,n2,h2,n3,h3,n4,h4,rfl⟩:=h
  exact ⟨rfl,fun C=>(zn (fun _ q=>zfn h0 q) (zn (fun _ q=>zfn h1 q) (zn (fun _ q=>zfn h2 q) (zn (fun _ q=>zfn h3 q) (zn (fun _ q=>zfn h4 q) zgq)))))⟩
 ·cases h
def z1a:List AV→Option Carry
 | [a,b,c,d,e]=>do pure ⟨← aI a,← aI b,← aI c,← aI d,← aS e⟩
 | _=>none
theorem znl {cs:List AV} {p:Carry} (h:z1a cs=some p):cs.length=5∧∀ C,Conv C cs p.cells:=by
 unfold z1a at h
 split at h
 ·simp only[bind,Option.bind_eq_some_iff,pure,yy1] at h
  obtain ⟨n0,h0,n1,h1,n2,h2,n3,h3,n4,h4,rfl⟩:=h
  exact ⟨rfl,fun C=>(zn (fun _ q=>zfn h0 q) (zn (fun _ q=>zfn h1 q) (zn (fun _ q=>zfn h2 q) (zn (fun _ q=>zfn h3 q) (zn (fun _ q=>zaow h4 q) zgq)))))⟩
 ·cases h
def Sl.push (s:Sl) (cs:List AV):Option (List Prop×Sl) :=
 match s with
 | .ints l=>match cs with
  | [a]=>(aI a).map fun n=>([],.ints (l++[n]))
  | _=>none
 | .strs l=>match cs with
  | [a]=>(aS a).map fun n=>([],.strs (l++[n]))
  | _=>none
 | .bytes l=>match cs with
  | [a]=>(aU a).map fun n=>([0≤n∧n < 256],.bytes (l++[UInt8.ofNat n.toNat]))
  | _=>none
 | .powers l=>(z06 cs).map fun p=>([],.powers (l++[p]))
 | .packets l=>(zxp cs).map fun p=>([],.packets (l++[p]))
 | .waits l=>(z54 cs).map fun p=>([],.waits (l++[p]))
 | .asked l=>(z07 cs).map fun p=>([],.asked (l++[p]))
 | .ripes l=>(z55 cs).map fun p=>([],.ripes (l++[p]))
 | .deeds l=>(z56 cs).map fun p=>([],.deeds (l++[p]))
 | .replies l=>(z08 cs).map fun p=>([],.replies (l++[p]))
 | .orders l=>(z09 cs).map fun p=>([],.orders (l++[p]))
 | .carries l=>(z1a cs).map fun p=>([],.carries (l++[p]))
 | .intss _=>none
def zr1:Nat→Sl→List AV→Option (List Prop×Sl)
 | 0,s,[]=>some ([],s)
 | n+1,s,cs=>match s.push (cs.take s.sz) with
  | some (ob,s')=>match zr1 n s' (cs.drop s.sz) with
   | some (ob',r)=>some (ob++ob',r)
   | none=>none
  | none=>none
 | _,_,_=>none
theorem allP_append {a b:List Prop}:zuz (a++b)↔zuz a∧zuz b:=by
 induction a with
 | nil=>simp[zuz]
 | cons p a ih=>simp only[List.cons_append,zuz,ih,and_assoc]
theorem zxq {α:Type} {l:List α} {x d:α}:(l++[x]).getD l.length d=x:=by
 rw[yy0,List.getElem?_append_right (Nat.le_refl _),Nat.sub_self];rfl
theorem zagt {s r:Sl} {cs:List AV} {ob:List Prop} (h:s.push cs=some (ob,r)) (ho:zuz ob):r.len=s.len+1∧r.sz=s.sz∧cs.length=s.sz∧(∀ k c,k < s.len→r.cell k c=s.cell k c) ∧
  ∀ C,Conv C cs (r.row s.len):=by
 cases s<;>simp only[Sl.push,reduceCtorEq] at h
 ·split at h
  ·obtain ⟨n,hn,h⟩:=Option.map_eq_some_iff.1 h
   simp only[Prod.mk.injEq] at h
   obtain ⟨rfl,rfl⟩:=h
   refine ⟨by simp[Sl.len],rfl,rfl,fun k c hk=>by simp only[Sl.cell,Sl.row];rw[zkz (by exact hk)],fun C=>?_⟩
   simp only[Sl.row,Sl.len,zxq]
   exact zn (fun _ q=>zfn hn q) zgq
  ·cases h
 ·split at h
  ·obtain ⟨n,hn,h⟩:=Option.map_eq_some_iff.1 h
   simp only[Prod.mk.injEq] at h
   obtain ⟨rfl,rfl⟩:=h
   refine ⟨by simp[Sl.len],rfl,rfl,fun k c hk=>by simp only[Sl.cell,Sl.row];rw[zkz (by exact hk)],fun C=>?_⟩
   simp only[Sl.row,Sl.len,zxq]
   exact zn (fun _ q=>zaow hn q) zgq
  ·cases h
 ·split at h
  ·obtain ⟨n,hn,h⟩:=Option.map_eq_some_iff.1 h
   simp only[Prod.mk.injEq] at h
   obtain ⟨rfl,rfl⟩:=h
   refine ⟨by simp[Sl.len],rfl,rfl,fun k c hk=>by simp only[Sl.cell,Sl.row];rw[zkz (by exact hk)],fun C=>?_⟩
   simp only[Sl.row,Sl.len,zxq]
   rw[zaj9 ho.1]
   exact zn (fun _ q=>by rw[zayk hn] at q;exact q) zgq
  ·cases h
 all_goals
  obtain ⟨n,hn,h⟩:=Option.map_eq_some_iff.1 h
  simp only[Prod.mk.injEq] at h
  obtain ⟨rfl,rfl⟩:=h
  refine ⟨by simp[Sl.len],rfl,?_,fun k c hk=>by simp only[Sl.cell,Sl.row];rw[zkz (by exact hk)],fun C=>?_⟩
  ·first | exact (znh hn).1 | exact (zlv hn).1 | exact (zph hn).1 | exact (zni hn).1 | exact (zpi hn).1 | exact (zpj hn).1 | exact (znj hn).1 | exact (znk hn).1 | exact (znl hn).1
  ·simp only[Sl.row,Sl.len,zxq]
   first | exact (znh hn).2 C | exact (zlv hn).2 C | exact (zph hn).2 C | exact (zni hn).2 C | exact (zpi hn).2 C | exact (zpj hn).2 C | exact (znj hn).2 C | exact (znk hn).2 C | exact (znl hn).2 C
theorem ztg:∀ (n:Nat) {s r:Sl} {cs:List AV} {ob:List Prop},zr1 n s cs=some (ob,r)→zuz ob→r.len=s.len+n∧r.sz=s.sz∧cs.length=n*s.sz∧(∀ k c,k < s.len→r.cell k c=s.cell k c) ∧
  ∀ C vs,Rds C cs vs→∀ k c,k < n→c < s.sz→Rd C (r.cell (s.len+k) c) (vs.getD (k*s.sz+c) undef)
 | 0,s,r,cs,ob,h,_=>by
  cases cs with
  | nil =>
   simp only[zr1,yy1,Prod.mk.injEq] at h
   obtain ⟨_,rfl⟩:=h
   exact ⟨rfl,rfl,by simp,fun _ _ _=>rfl,fun _ _ _ k c hk=>by omega⟩
  | cons x xs=>simp[zr1] at h
 | n+1,s,r,cs,ob,h,ho=>by
  unfold zr1 at h
  split at h
  ·rename_i ob1 s1 h1
   split at h
   ·rename_i ob2 r2 h2
    simp only[yy1,Prod.mk.injEq] at h
    obtain ⟨rfl,rfl⟩:=h
    obtain ⟨o1,o2⟩:=allP_append.1 ho
    obtain ⟨a1,a2,a3,a4,a5⟩:=zagt h1 o1
    obtain ⟨b1,b2,b3,b4,b5⟩:=ztg n h2 o2
    have hz:=zpl s
    have htk:s.sz≤cs.length:=by rw[List.length_take] at a3;omega
    refine ⟨by omega,by rw[b2,a2],?_,fun k c hk=>by rw[b4 k c (by omega),a4 k c hk],fun C vs hr k c hk hc=>?_⟩
    ·rw[List.length_drop,a2] at b3
     rw[Nat.add_mul,Nat.one_mul];omega
    ·by_cases h0:k=0
     ·subst h0
      have hc1:=a5 C _ (hr.take s.sz)
      have hc2:=hc1.2 c (by rw[Sl.row_length,a2];exact hc)
      rw[Nat.add_zero,b4 s.len c (by omega),Nat.zero_mul,Nat.zero_add]
      have e1:(vs.take s.sz).getD c undef=vs.getD c undef:=by
       rw[yy0,List.getElem?_take_of_lt hc,← yy0]
      rw[e1] at hc2
      exact hc2
     ·obtain ⟨q,rfl⟩:∃ q,k=q+1:=⟨k - 1,by omega⟩
      have:=b5 C _ (hr.drop s.sz) q c (by omega) (by rw[a2];exact hc)
      rw[a1,a2,yy0,List.getElem?_drop,← yy0] at this
      have e1:s.sz+(q*s.sz+c)=(q+1)*s.sz+c:=by rw[Nat.add_mul,Nat.one_mul];omega
      rw[e1] at this
      rw[show s.len+(q+1)=s.len+1+q by omega]
      exact this
   ·cases h
  ·cases h
def zth (z:Value) (n:Nat):Array Value:=(Array.range n).map (z.cells[· % z.cells.size]!)
theorem zpk {P:Program} (w:World) (t e:TypeId) (len:Nat) (parts:Array (Nat×Value)) (cells:Array Value) (ie:TypeInfo) (z:Value)
  (hu:P.underlying t=some (.slice e)) (hie:P.info? e=some ie) (hz:ie.zero=some z) (hsmall:¬ len*ie.size > 2 ^ 24)
  (h:Instr.fill (fun i=>some (i*ie.size,ie.size)) (zth z (len*ie.size)) parts.toList=some cells) :
  (Instr.buildSlice t len parts).run P w=.ok (.slice (some ⟨w.heap.size,0,none⟩) len len) (w.alloc (.cells cells e)):=by
 by_cases hpos:len*ie.size=0
 ·have h':Instr.fill (fun i=>some (i*ie.size,ie.size)) #[] parts.toList=some cells:=by
   have e0:Array.range 0=#[]:=rfl
   unfold zth at h;rw[hpos,e0,Array.map_empty] at h;exact h
  have e0:Array.range 0=#[]:=rfl
  simp[Instr.buildSlice,run_underlying hu,sizeOf,typeInfo,hie,hpos,e0,h',newRow]
 ·exact run_buildSlice w t e len parts cells ie z hu hie hz hsmall hpos h
theorem z1r {P:Program} {G:Gl} {blks:List Blk} {nu:Nat→Option Value} {w:World} (h:MInv G blks nu w) {o:Oper} {t E:TypeId} {len bytes:Nat} {parts:Array (Nat×Operand)} {e:Operand→Value} {g:Operand→AV}
  {s r:Sl} {z:Value} {cs:List AV} {ob:List Prop} {id:Nat} (ho:o.op=.buildSlice t len parts) (hg:∀ x,Rd (cx G blks nu w) (g x) (e x)) (hi:zn6 P t=some (E,s.sz,bytes)) (hz:(P.info? E).bind (·.zero)=some z)
  (h0:s.len=0) (hfill:zn5 (fun i=>some (i*s.sz,s.sz)) ((zth z (len*s.sz)).toList.map .val) (parts.toList.map fun p=>(p.1,g p.2))=some cs) (hpush:zr1 len s cs=some (ob,r)) (hob:zuz ob)
  (hsmall:len*s.sz≤16777216) (hf:blks.getD id .dead=.free):Does P o e w (zf1 G blks nu w ⟨ob,.own id,[(id,.rows E r)]⟩):=by
 obtain ⟨hT,i,z',hi1,hz',hzs,hsz,hby,hpos⟩:=zl6 hi
 rw[hi1] at hz
 simp only[Option.bind_some,hz',yy1] at hz
 subst hz
 obtain ⟨cells,h1,h2⟩:=zng (C:=cx G blks nu w) (parts.toList.map fun p=>(p.1,g p.2)) (parts.toList.map fun p=>(p.1,e p.2)) _ cs (zth z' (len*s.sz)) (by simp)
  (fun i p q hi hj=>by
   rw[List.getElem?_map] at hi hj
   cases hk:parts.toList[i]? with
   | none=>rw[hk] at hi;cases hi
   | some r =>
    rw[hk] at hi hj
    simp only[Option.map_some,yy1] at hi hj
    subst hi;subst hj
    exact ⟨rfl,hg _⟩) (zpg _ _) hfill
 obtain ⟨a1,a2,a3,_,a5⟩:=ztg len hpush hob
 have hlen:cells.size=len*s.sz:=by rw[← Array.length_toList,h2.1,a3]
 have hz0:=zpl s
 have hlm:len≤maxLen:=by
  have:len≤len*s.sz:=Nat.le_mul_of_pos_right _ hz0
  unfold maxLen;omega
 have hrun:=zpk w t E len (parts.map fun (i,x)=>(i,e x)) cells i z' hT hi1 hz' (by rw[hsz];omega) (by rw[hsz];simpa using h1)
 have hown:(w.alloc (.cells cells E)).ownsRow 0 E r.sz (.slice (some ⟨w.heap.size,0,none⟩) len len) r.len cells.toList:=by
  have:=World.ownsRow_lit (base:=0) (e:=E) (size:=s.sz) w cells len (Nat.zero_le _) hlm hlen
  rw[a1,a2,h0,Nat.zero_add];exact this
 obtain ⟨nu',k1,k2,k3⟩:=h.putRow (blks1:=blks) (old:=none) (row:=none) (w':=w.alloc (.cells cells E)) hf rfl (fun _ _ _=>rfl) (fun _ h=>by cases h) hown (by rw[a1,h0];omega)
  (fun C' hle k c hk hc=>by
   rw[a1,h0,Nat.zero_add] at hk
   rw[a2] at hc ⊢
   have:=a5 _ _ h2 k c hk hc
   rw[h0,Nat.zero_add] at this
   exact this.mono hle) (World.grownBy_alloc w _ none) (fun b hb=>by cases hb) (.inr fun b hb=>by simp only[zcu,yy1] at hb;omega)
 refine Does.value (v:=.slice (some ⟨w.heap.size,0,none⟩) len len) (w':=w.alloc (.cells cells E)) ?_ ⟨nu',k1,k2,.own k3⟩
 simp only[execOp,ho,Sem.run_bind,hrun,Result.andThen_ok,Sem.run_pure]
def z4y (P:Program) (T:TypeId) (cs:List AV) (off:Nat):Option AV :=
 match zi P (isAgg T),P.info? T with
 | some t,some i=>if ((cs.drop off).take i.size).length=i.size∧(t=true∨i.size=1) then some (zm8 t ((cs.drop off).take i.size)) else none
 | _,_=>none
def eqFs (P:Program) (eq:TypeId→AV→AV→Option Bool) (xs ys:List AV):List Field→Option Bool
 | []=>some true
 | f :: l => if f.name ≠ "_" then match z4y P f.type xs f.offset, z4y P f.type ys f.offset with
   | some a,some b=>match eq f.type a b,eqFs P eq xs ys l with
    | some r,some r'=>some (r&&r')
    | _,_=>none
   | _,_=>none
  else none
def eqIs (P:Program) (eq:AV→AV→Option Bool) (e:TypeId) (n:Nat) (xs ys:List AV):List Nat→Option Bool
 | []=>some true
 | i::l=>match z4y P e xs (i*n),z4y P e ys (i*n) with
   | some a,some b=>match eq a b,eqIs P eq e n xs ys l with
    | some r,some r'=>some (r&&r')
    | _,_=>none
   | _,_=>none
def eqT (P:Program):Nat→TypeId→AV→AV→Option Bool
 | 0,_,_,_=>none
 | d+1,T,x,y=>match P.underlying T,x,y with
  | some (.int _),.val (.int k a),.val (.int k' b)=>if k=k' then some (a==b) else none
  | some .bool,.val (.bool a),.val (.bool b)=>some (a==b)
  | some .string,.val (.string a),.val (.string b)=>some (a.toList==b.toList)
  | some (.struct fs),.agg xs,.agg ys=>if P.stoodInHeld T=false then eqFs P (eqT P d) xs ys fs.toList else none
  | some (.array n e),.agg xs,.agg ys=>match P.info? e with
   | some _=>eqIs P (eqT P d e) e (P.cellsOf e) xs ys (List.range n)
   | none=>none
  | _,_,_=>none
section
variable {P:Program} {C:Cx}
theorem z1b {T:TypeId} {cs:List AV} {off:Nat} {x:AV} (hx:z4y P T cs off=some x) {vs:List Value} (hr:Rds C cs vs) (w:World) :
  ∃ v,(part T vs.toArray off).run P w=.ok v w∧Rd C x v:=by
 unfold z4y at hx
 split at hx
 ·rename_i t i ht hi
  split at hx
  ·rename_i hc
   simp only[yy1] at hx
   subst hx
   have hr':Rds C ((cs.drop off).take i.size) ((vs.drop off).take i.size):=(hr.drop off).take _
   have h1:t=false→i.size=1:=fun ht=>hc.2.resolve_left (by simp[ht])
   have hsz:(sizeOf T).run P w=.ok i.size w:=by simp[Go.sizeOf,typeInfo,hi]
   refine ⟨_,?_,zic hr' (fun ht=>by rw[hc.1];exact h1 ht)⟩
   cases t with
   | true =>
    have e1:vs.toArray.extract off (off+i.size)=((vs.drop off).take i.size).toArray:=by simp[List.extract_eq_take_drop]
    simp[part,zj ht w,hsz,e1]
   | false =>
    have hn1:=h1 rfl
    have hlt:off < vs.length:=by have:=hr'.1;rw[hc.1,hn1] at this;simp at this;omega
    have e2:vs[off]?=some vs[off]:=yy3 hlt
    have e3:((vs.drop off).take i.size).getD 0 undef=vs[off]:=by
     rw[yy0,List.getElem?_take_of_lt (by omega),List.getElem?_drop,Nat.add_zero,e2];rfl
    simp only[Bool.false_eq_true,if_false,e3]
    simp[part,zj ht w,e2]
  ·cases hx
 ·cases hx
theorem zac7 {d:Nat} {eq:TypeId→AV→AV→Option Bool} (heq:∀ T x y b,eq T x y=some b→∀ u v,Rd C x u→Rd C y v→∀ w,(Op.equalIn d T u v).run P w=.ok b w)
  {xs ys:List AV} {us vs:List Value} (hx:Rds C xs us) (hy:Rds C ys vs) (w:World):∀ (fs:List Field) (b:Bool),eqFs P eq xs ys fs=some b→(Op.eqFields d us.toArray vs.toArray fs).run P w=.ok b w
 | [],b,h=>by
  simp only[eqFs,yy1] at h
  subst h;rfl
 | f::l,b,h=>by
  simp only[eqFs] at h
  split at h
  ·rename_i hn
   split at h
   ·rename_i a a' h1 h2
    split at h
    ·rename_i r r' h3 h4
     simp only[yy1] at h
     subst h
     obtain ⟨u,e1,e2⟩:=z1b h1 hx w
     obtain ⟨v,e3,e4⟩:=z1b h2 hy w
     have e5:=heq _ _ _ _ h3 u v e2 e4 w
     have e6:=zac7 heq hx hy w l r' h4
     simp only[Op.eqFields,if_pos hn,Sem.run_bind,e1,e3,e5,Result.andThen_ok,Sem.run_ite]
     cases r
     ·rfl
     ·simpa using e6
    ·cases h
   ·cases h
  ·cases h
theorem zac8 {d:Nat} {e:TypeId} {n:Nat} {eq:AV→AV→Option Bool} (heq:∀ x y b,eq x y=some b→∀ u v,Rd C x u→Rd C y v→∀ w,(Op.equalIn d e u v).run P w=.ok b w)
  {xs ys:List AV} {us vs:List Value} (hx:Rds C xs us) (hy:Rds C ys vs) (w:World):∀ (is:List Nat) (b:Bool),eqIs P eq e n xs ys is=some b→(Op.eqItems d e n us.toArray vs.toArray is).run P w=.ok b w
 | [],b,h=>by
  simp only[eqIs,yy1] at h
  subst h;rfl
 | i::l,b,h=>by
  simp only[eqIs] at h
  split at h
  ·rename_i a a' h1 h2
   split at h
   ·rename_i r r' h3 h4
    simp only[yy1] at h
    subst h
    obtain ⟨u,e1,e2⟩:=z1b h1 hx w
    obtain ⟨v,e3,e4⟩:=z1b h2 hy w
    have e5:=heq _ _ _ h3 u v e2 e4 w
    have e6:=zac8 heq hx hy w l r' h4
    simp only[Op.eqItems,Sem.run_bind,e1,e3,e5,Result.andThen_ok,Sem.run_ite]
    cases r
    ·rfl
    ·simpa using e6
   ·cases h
  ·cases h
theorem zaa2:∀ (d:Nat) (T:TypeId) (x y:AV) (b:Bool),eqT P d T x y=some b→∀ m u v,Rd C x u→Rd C y v→∀ w,(Op.equalIn (m+d) T u v).run P w=.ok b w
 | 0,T,x,y,b,h=>by cases h
 | d+1,T,x,y,b,h=>by
  intro m u v hu hv w
  simp only[eqT] at h
  split at h
  ·rename_i k0 k a k' b' hT
   cases hu;cases hv
   split at h
   ·rename_i hk
    subst hk
    simp only[yy1] at h;subst h
    exact run_equalIn_int w (m+d) T k k0 a b' hT
   ·cases h
  ·rename_i a b' hT
   cases hu;cases hv
   simp only[yy1] at h;subst h
   exact run_equalIn_bool' w (m+d) T a b' hT
  ·rename_i a b' hT
   cases hu;cases hv
   simp only[yy1] at h;subst h
   exact run_equalIn_string w (m+d) T a b' hT
  ·rename_i fs xs ys hT
   split at h
   ·rename_i hst
    cases hu with
    | @agg _ us hl hh =>
     cases hv with
     | @agg _ vs hl' hh' =>
      have hfs:P.fieldsOf T=fs:=by unfold Program.fieldsOf;rw[hT]
      have e1:=run_equalIn_struct w (m+d) T us.toArray vs.toArray (by rw[hfs];exact hT) hst
      rw[hfs] at e1
      show (Op.equalIn (m+d+1) T _ _).run P w=_
      rw[e1]
      exact zac7 (fun T x y b hb u v hu hv w=>zaa2 d T x y b hb m u v hu hv w) (Rds.mk hl hh) (Rds.mk hl' hh') w _ _ h
   ·cases h
  ·rename_i n e xs ys hT
   split at h
   ·rename_i i hi
    cases hu with
    | @agg _ us hl hh =>
     cases hv with
     | @agg _ vs hl' hh' =>
      have e1:=Go.run_equalIn_array w (m+d) us.toArray vs.toArray hT hi
      show (Op.equalIn (m+d+1) T _ _).run P w=_
      rw[e1]
      exact zac8 (fun x y b hb u v hu hv w=>zaa2 d e x y b hb m u v hu hv w) (Rds.mk hl hh) (Rds.mk hl' hh') w _ _ h
   ·cases h
  ·cases h
end
theorem zaev {P:Program} {G:Gl} {blks:List Blk} {nu:Nat→Option Value} {w:World} (h:MInv G blks nu w) {o:Oper} {op:BinOp} {T U:TypeId} {x y:Operand} {e:Operand→Value} {xs ys:List AV} {b:Bool}
  (hop:op=.eql∨op=.neq) (ho:o.op=.binOp op T x y U) (hx:Rd (cx G blks nu w) (.agg xs) (e x)) (hy:Rd (cx G blks nu w) (.agg ys) (e y)) (hg:P.eqGuardType P.depth T=false)
  (hb:eqT P 8 T (.agg xs) (.agg ys)=some b):Does P o e w (zf1 G blks nu w ⟨[],.b (if op=.eql then b else !b),[]⟩):=by
 have e1:=zaa2 8 T _ _ b hb 9992 (e x) (e y) hx hy w
 generalize hv:e x=u at hx e1
 generalize hw:e y=v at hy e1
 cases hx with
 | @agg _ us hl hh =>
  cases hy with
  | @agg _ vs hl' hh' =>
   refine Does.value (v:=.bool (if op=.eql then b else !b)) (w':=w) ?_ (zam h .val)
   rcases hop with rfl | rfl
   ·simp only[execOp,ho,hv,hw,Sem.run_bind,run_eqGuard_agg w _ T x y us.toArray vs.toArray hg,Result.andThen_ok,run_eql_struct,e1,Sem.run_pure,if_true]
   ·simp only[execOp,ho,hv,hw,Sem.run_bind,run_eqGuard_agg w _ T x y us.toArray vs.toArray hg,Result.andThen_ok,run_neq_struct,e1,Sem.run_pure]
    rfl
