/-
  The walk over abstract states.
-/
import Derived.Test.YtobfadhgiaphnaaGreatXAbSpec
namespace Go.Proofs.YtobfadhgiaphnaaGreat.Ab
open Go Go.RowKit
set_option linter.unusedSimpArgs false
set_option linter.unusedVariables false
structure A2 (α:Type) where
 x0:α
 x1:α
instance {α:Type} [Inhabited α]:Inhabited (A2 α):=⟨⟨default,default⟩⟩
structure A4 (α:Type) where
 x0:α
 x1:α
 x2:α
 x3:α
instance {α:Type} [Inhabited α]:Inhabited (A4 α):=⟨⟨default,default,default,default⟩⟩
structure A6 (α:Type) where
 x0:α
 x1:α
 x2:α
 x3:α
 x4:α
 x5:α
instance {α:Type} [Inhabited α]:Inhabited (A6 α):=⟨⟨default,default,default,default,default,default⟩⟩
structure A7 (α:Type) where
 x0:α
 x1:α
 x2:α
 x3:α
 x4:α
 x5:α
 x6:α
instance {α:Type} [Inhabited α]:Inhabited (A7 α):=⟨⟨default,default,default,default,default,default,default⟩⟩
def A2.get {α:Type} (a:A2 α) (i:Int):α:=if i=0 then a.x0 else a.x1
def A4.get {α:Type} (a:A4 α) (i:Int):α:=if i=0 then a.x0 else if i=1 then a.x1 else if i=2 then a.x2 else a.x3
def A6.get {α:Type} (a:A6 α) (i:Int):α:=if i=0 then a.x0 else if i=1 then a.x1 else if i=2 then a.x2 else if i=3 then a.x3 else if i=4 then a.x4 else a.x5
def A7.get {α:Type} (a:A7 α) (i:Int):α:=if i=0 then a.x0 else if i=1 then a.x1 else if i=2 then a.x2 else if i=3 then a.x3 else if i=4 then a.x4 else if i=5 then a.x5 else a.x6
def A2.set {α:Type} (a:A2 α) (i:Int) (y:α):A2 α:=⟨if i=0 then y else a.x0,if i=1 then y else a.x1⟩
def A4.set {α:Type} (a:A4 α) (i:Int) (y:α):A4 α:=⟨if i=0 then y else a.x0,if i=1 then y else a.x1,if i=2 then y else a.x2,if i=3 then y else a.x3⟩
def A6.set {α:Type} (a:A6 α) (i:Int) (y:α):A6 α:=⟨if i=0 then y else a.x0,if i=1 then y else a.x1,if i=2 then y else a.x2,if i=3 then y else a.x3,if i=4 then y else a.x4,if i=5 then y else a.x5⟩
def A7.set {α:Type} (a:A7 α) (i:Int) (y:α):A7 α:=⟨if i=0 then y else a.x0,if i=1 then y else a.x1,if i=2 then y else a.x2,if i=3 then y else a.x3,if i=4 then y else a.x4,if i=5 then y else a.x5,if i=6 then y else a.x6⟩
structure Meter where
 Left:Int
 Next:Int
instance:Inhabited Meter:=⟨⟨0,0⟩⟩
structure zcl where
 Said:List ByteArray
 Due:List Int
 Got:Int
 Closed:Bool
instance:Inhabited zcl:=⟨⟨[],[],0,false⟩⟩
structure Bank where
 Free:A4 Int
 Bonded:Int
 Waiting:Int
 Burnt:Int
instance:Inhabited Bank:=⟨⟨default,0,0,0⟩⟩
structure Head where
 Height:Int
 Time:Int
 Said:Int
 Got:Int
instance:Inhabited Head:=⟨⟨0,0,0,0⟩⟩
structure zb where
 On:Bool
 Gone:Bool
 Height:Int
 Time:Int
 Id:Int
 Set:List Power
 Pending:List Packet
 Ripes:List Ripe
 Flags:A6 Bool
 Out:zcl
 Seen:Head
instance:Inhabited zb:=⟨⟨false,false,0,0,0,[],[],[],default,default,default⟩⟩
structure zi where
 Tokens:Int
 Shares:Int
 Lost:Int
 Jailed:Bool
 Dead:Bool
instance:Inhabited zi:=⟨⟨0,0,0,false,false⟩⟩
structure Validators where
 Tokens:A6 Int
 Shares:A6 Int
 Lost:A6 Int
 Jailed:A6 Bool
 Dead:A6 Bool
instance:Inhabited Validators:=⟨⟨default,default,default,default,default⟩⟩
structure Stake where
 Bank:Bank
 Validators:Validators
 Shares:A4 (A6 Int)
 Waits:List Wait
 Next:Int
instance:Inhabited Stake:=⟨⟨default,default,default,[],0⟩⟩
def A46.get (a:A4 (A6 Int)) (d v:Int):Int:=A4.get ⟨a.x0.get v,a.x1.get v,a.x2.get v,a.x3.get v⟩ d
def A46.set (a:A4 (A6 Int)) (d v y:Int):A4 (A6 Int) :=
  ⟨⟨if v=0 then (if d=0 then y else a.x0.x0) else a.x0.x0,if v=1 then (if d=0 then y else a.x0.x1) else a.x0.x1,if v=2 then (if d=0 then y else a.x0.x2) else a.x0.x2,if v=3 then (if d=0 then y else a.x0.x3) else a.x0.x3,if v=4 then (if d=0 then y else a.x0.x4) else a.x0.x4,if v=5 then (if d=0 then y else a.x0.x5) else a.x0.x5⟩,
   ⟨if v=0 then (if d=1 then y else a.x1.x0) else a.x1.x0,if v=1 then (if d=1 then y else a.x1.x1) else a.x1.x1,if v=2 then (if d=1 then y else a.x1.x2) else a.x1.x2,if v=3 then (if d=1 then y else a.x1.x3) else a.x1.x3,if v=4 then (if d=1 then y else a.x1.x4) else a.x1.x4,if v=5 then (if d=1 then y else a.x1.x5) else a.x1.x5⟩,
   ⟨if v=0 then (if d=2 then y else a.x2.x0) else a.x2.x0,if v=1 then (if d=2 then y else a.x2.x1) else a.x2.x1,if v=2 then (if d=2 then y else a.x2.x2) else a.x2.x2,if v=3 then (if d=2 then y else a.x2.x3) else a.x2.x3,if v=4 then (if d=2 then y else a.x2.x4) else a.x2.x4,if v=5 then (if d=2 then y else a.x2.x5) else a.x2.x5⟩,
   ⟨if v=0 then (if d=3 then y else a.x3.x0) else a.x3.x0,if v=1 then (if d=3 then y else a.x3.x1) else a.x3.x1,if v=2 then (if d=3 then y else a.x3.x2) else a.x3.x2,if v=3 then (if d=3 then y else a.x3.x3) else a.x3.x3,if v=4 then (if d=3 then y else a.x3.x4) else a.x3.x4,if v=5 then (if d=3 then y else a.x3.x5) else a.x3.x5⟩⟩
structure Link where
 On:Bool
 Gone:Bool
 Base:Int
 Told:List Power
 Fresh:Bool
 Done:List Int
 Out:zcl
 Seen:Head
instance:Inhabited Link:=⟨⟨false,false,0,[],false,[],default,default⟩⟩
structure Links where
 On:A2 Bool
 Gone:A2 Bool
 Base:A2 Int
 Told:A2 (List Power)
 Fresh:A2 Bool
 Done:A2 (List Int)
 Said:A2 (List ByteArray)
 Due:A2 (List Int)
 Got:A2 Int
 Closed:A2 Bool
 SHeight:A2 Int
 STime:A2 Int
 SSaid:A2 Int
 SGot:A2 Int
instance:Inhabited Links:=⟨⟨default,default,default,default,default,default,default,default,default,default,default,default,default,default⟩⟩
structure za where
 Height:Int
 Time:Int
 Stake:Stake
 Set:List Power
 Links:Links
 Meter:Meter
 Queue:List Asked
instance:Inhabited za:=⟨⟨0,0,default,[],default,default,[]⟩⟩
structure zd9 where
 On:A2 Bool
 Gone:A2 Bool
 Height:A2 Int
 Time:A2 Int
 Id:A2 Int
 Set:A2 (List Power)
 Pending:A2 (List Packet)
 Ripes:A2 (List Ripe)
 F0:A2 Bool
 F1:A2 Bool
 F2:A2 Bool
 F3:A2 Bool
 F4:A2 Bool
 F5:A2 Bool
 Said:A2 (List ByteArray)
 Due:A2 (List Int)
 Got:A2 Int
 Closed:A2 Bool
 SHeight:A2 Int
 STime:A2 Int
 SSaid:A2 Int
 SGot:A2 Int
instance:Inhabited zd9:=⟨⟨default,default,default,default,default,default,default,default,default,default,default,default,default,default,default,default,default,default,default,default,default,default⟩⟩
structure z6y where
 PHeight:A2 Int
 PTime:A2 Int
 PSaid:A2 Int
 PGot:A2 Int
 CHeight:A2 Int
 CTime:A2 Int
 CSaid:A2 Int
 CGot:A2 Int
instance:Inhabited z6y:=⟨⟨default,default,default,default,default,default,default,default⟩⟩
structure z18 where
 Height:A2 Int
 Time:A2 Int
 Said:A2 Int
 Got:A2 Int
instance:Inhabited z18:=⟨⟨default,default,default,default⟩⟩
def zc (C:zd9) (i:Int):zb:=⟨C.On.get i,C.Gone.get i,C.Height.get i,C.Time.get i,C.Id.get i,C.Set.get i,C.Pending.get i,C.Ripes.get i,⟨C.F0.get i,C.F1.get i,C.F2.get i,C.F3.get i,C.F4.get i,C.F5.get i⟩,⟨C.Said.get i,C.Due.get i,C.Got.get i,C.Closed.get i⟩,⟨C.SHeight.get i,C.STime.get i,C.SSaid.get i,C.SGot.get i⟩⟩
def zz (C:Links) (i:Int):Link:=⟨C.On.get i,C.Gone.get i,C.Base.get i,C.Told.get i,C.Fresh.get i,C.Done.get i,⟨C.Said.get i,C.Due.get i,C.Got.get i,C.Closed.get i⟩,⟨C.SHeight.get i,C.STime.get i,C.SSaid.get i,C.SGot.get i⟩⟩
def zo8 (C:zd9) (i:Int) (c:zb):zd9:=⟨C.On.set i c.On,C.Gone.set i c.Gone,C.Height.set i c.Height,C.Time.set i c.Time,C.Id.set i c.Id,C.Set.set i c.Set,C.Pending.set i c.Pending,C.Ripes.set i c.Ripes,C.F0.set i c.Flags.x0,C.F1.set i c.Flags.x1,C.F2.set i c.Flags.x2,C.F3.set i c.Flags.x3,C.F4.set i c.Flags.x4,C.F5.set i c.Flags.x5,C.Said.set i c.Out.Said,C.Due.set i c.Out.Due,C.Got.set i c.Out.Got,C.Closed.set i c.Out.Closed,C.SHeight.set i c.Seen.Height,C.STime.set i c.Seen.Time,C.SSaid.set i c.Seen.Said,C.SGot.set i c.Seen.Got⟩
structure Wld where
 clock:Int
 p:za
 consumers:zd9
 heads:z6y
 deeds:Int
instance:Inhabited Wld:=⟨⟨0,default,default,default,0⟩⟩
structure zt5 where
 Clock:Int
 Deeds:Int
 P:za
 C:zd9
 HeadP:z18
 HeadC:z18
instance:Inhabited zt5:=⟨⟨0,0,default,default,default,default⟩⟩
def zayu (a b:Bank):Bool:=((a.Free.x0==b.Free.x0)&&((a.Free.x1==b.Free.x1)&&((a.Free.x2==b.Free.x2)&&((a.Free.x3==b.Free.x3)&&true))))&&((a.Bonded==b.Bonded)&&((a.Waiting==b.Waiting)&&((a.Burnt==b.Burnt)&&true)))
def zayv (a b:Validators):Bool:=((a.Tokens.x0==b.Tokens.x0)&&((a.Shares.x0==b.Shares.x0)&&((a.Lost.x0==b.Lost.x0)&&((a.Jailed.x0==b.Jailed.x0)&&((a.Dead.x0==b.Dead.x0)&&true)))))&&(((a.Tokens.x1==b.Tokens.x1)&&((a.Shares.x1==b.Shares.x1)&&((a.Lost.x1==b.Lost.x1)&&((a.Jailed.x1==b.Jailed.x1)&&((a.Dead.x1==b.Dead.x1)&&true)))))&&(((a.Tokens.x2==b.Tokens.x2)&&((a.Shares.x2==b.Shares.x2)&&((a.Lost.x2==b.Lost.x2)&&((a.Jailed.x2==b.Jailed.x2)&&((a.Dead.x2==b.Dead.x2)&&true)))))&&(((a.Tokens.x3==b.Tokens.x3)&&((a.Shares.x3==b.Shares.x3)&&((a.Lost.x3==b.Lost.x3)&&((a.Jailed.x3==b.Jailed.x3)&&((a.Dead.x3==b.Dead.x3)&&true)))))&&(((a.Tokens.x4==b.Tokens.x4)&&((a.Shares.x4==b.Shares.x4)&&((a.Lost.x4==b.Lost.x4)&&((a.Jailed.x4==b.Jailed.x4)&&((a.Dead.x4==b.Dead.x4)&&true)))))&&(((a.Tokens.x5==b.Tokens.x5)&&((a.Shares.x5==b.Shares.x5)&&((a.Lost.x5==b.Lost.x5)&&((a.Jailed.x5==b.Jailed.x5)&&((a.Dead.x5==b.Dead.x5)&&true)))))&&true)))))
def zamn (a b:(A4 (A6 Int))):Bool:=((a.x0.x0==b.x0.x0)&&((a.x0.x1==b.x0.x1)&&((a.x0.x2==b.x0.x2)&&((a.x0.x3==b.x0.x3)&&((a.x0.x4==b.x0.x4)&&((a.x0.x5==b.x0.x5)&&true))))))&&(((a.x1.x0==b.x1.x0)&&((a.x1.x1==b.x1.x1)&&((a.x1.x2==b.x1.x2)&&((a.x1.x3==b.x1.x3)&&((a.x1.x4==b.x1.x4)&&((a.x1.x5==b.x1.x5)&&true))))))&&(((a.x2.x0==b.x2.x0)&&((a.x2.x1==b.x2.x1)&&((a.x2.x2==b.x2.x2)&&((a.x2.x3==b.x2.x3)&&((a.x2.x4==b.x2.x4)&&((a.x2.x5==b.x2.x5)&&true))))))&&(((a.x3.x0==b.x3.x0)&&((a.x3.x1==b.x3.x1)&&((a.x3.x2==b.x3.x2)&&((a.x3.x3==b.x3.x3)&&((a.x3.x4==b.x3.x4)&&((a.x3.x5==b.x3.x5)&&true))))))&&true)))
def zayw (a b:Wait):Bool:=(a.Number==b.Number)&&((a.D==b.D)&&((a.V==b.V)&&((a.Amount==b.Amount)&&((a.Height==b.Height)&&((a.Due==b.Due)&&(((a.h0==b.h0)&&((a.h1==b.h1)&&true))&&true))))))
def zayx (a b:Head):Bool:=(a.Height==b.Height)&&((a.Time==b.Time)&&((a.Said==b.Said)&&((a.Got==b.Got)&&true)))
def zara (a b:(A6 Bool)):Bool:=(a.x0==b.x0)&&((a.x1==b.x1)&&((a.x2==b.x2)&&((a.x3==b.x3)&&((a.x4==b.x4)&&((a.x5==b.x5)&&true)))))
@[simp] theorem za1b (a:Bank):zayu a a=true:=by simp[zayu]
@[simp] theorem za1c (a:Validators):zayv a a=true:=by simp[zayv]
@[simp] theorem zat8 (a:A4 (A6 Int)):zamn a a=true:=by simp[zamn]
@[simp] theorem za1d (a:Wait):zayw a a=true:=by simp[zayw]
@[simp] theorem za1e (a:Head):zayx a a=true:=by simp[zayx]
@[simp] theorem zayy (a:A6 Bool):zara a a=true:=by simp[zara]
structure zf4 where
 s:ByteArray
 bad:Bool
instance:Inhabited zf4:=⟨⟨.empty,false⟩⟩
def kP (k:IntKind):Par Int where
 A x:=match x with
  | .val (.int k' n)=>if k'=k then some n else none
  | _=>none
 e n:=.val (.int k n)
 norm x a h:=by
  split at h
  ·split at h
   ·rename_i e;simp only[yy1] at h;subst h;subst e;exact .refl
   ·cases h
  ·cases h
 cl _:=rfl
abbrev iL:LP Int:=.one intP
abbrev bL:LP Bool:=.one boolP
def a2L {α:Type} (p:LP α):LP (A2 α):=(p.seq p).map (fun x=>⟨x.1,x.2⟩) (fun a=>(a.x0,a.x1)) (fun _=>rfl)
def a4L {α:Type} (p:LP α):LP (A4 α):=(p.seq (p.seq (p.seq p))).map (fun x=>⟨x.1,x.2.1,x.2.2.1,x.2.2.2⟩) (fun a=>(a.x0,a.x1,a.x2,a.x3)) (fun _=>rfl)
def a6L {α:Type} (p:LP α):LP (A6 α):=(p.seq (p.seq (p.seq (p.seq (p.seq p))))).map (fun x=>⟨x.1,x.2.1,x.2.2.1,x.2.2.2.1,x.2.2.2.2.1,x.2.2.2.2.2⟩) (fun a=>(a.x0,a.x1,a.x2,a.x3,a.x4,a.x5)) (fun _=>rfl)
def a7L {α:Type} (p:LP α):LP (A7 α):=(p.seq (p.seq (p.seq (p.seq (p.seq (p.seq p)))))).map (fun x=>⟨x.1,x.2.1,x.2.2.1,x.2.2.2.1,x.2.2.2.2.1,x.2.2.2.2.2.1,x.2.2.2.2.2.2⟩) (fun a=>(a.x0,a.x1,a.x2,a.x3,a.x4,a.x5,a.x6)) (fun _=>rfl)
def zes:LP Packet:=(iL.seq (iL.seq (iL.seq (iL.seq ((LP.one zg).seq (.one zbc)))))).map (fun x=>⟨x.1,x.2.1,x.2.2.1,x.2.2.2.1,x.2.2.2.2.1,x.2.2.2.2.2⟩)
 (fun p=>(p.Kind,p.Id,p.V,p.N,p.Set,p.Done)) (fun _=>rfl)
def zaoa:LP Wait:=(iL.seq (iL.seq (iL.seq (iL.seq (iL.seq (iL.seq (iL.seq iL))))))).map (fun x=>⟨x.1,x.2.1,x.2.2.1,x.2.2.2.1,x.2.2.2.2.1,x.2.2.2.2.2.1,x.2.2.2.2.2.2.1,x.2.2.2.2.2.2.2⟩)
 (fun p=>(p.Number,p.D,p.V,p.Amount,p.Height,p.Due,p.h0,p.h1)) (fun _=>rfl)
def z19:LP Asked:=(iL.seq zes).map (fun x=>⟨x.1,x.2⟩) (fun p=>(p.C,p.P)) (fun _=>rfl)
def deedL:LP Deed:=(iL.seq (iL.seq (iL.seq (iL.seq (iL.seq (bL.seq bL)))))).map (fun x=>⟨x.1,x.2.1,x.2.2.1,x.2.2.2.1,x.2.2.2.2.1,x.2.2.2.2.2.1,x.2.2.2.2.2.2⟩) (fun p=>(p.Kind,p.C,p.D,p.V,p.N,p.Back,p.Forged)) (fun _=>rfl)
def zhm:LP Reply:=(iL.seq iL).map (fun x=>⟨x.1,x.2⟩) (fun p=>(p.Code,p.N)) (fun _=>rfl)
def meterL:LP Meter:=(iL.seq iL).map (fun x=>⟨x.1,x.2⟩) (fun p=>(p.Left,p.Next)) (fun _=>rfl)
def lineL:LP zcl:=((LP.one z6x).seq ((LP.one zbc).seq (iL.seq bL))).map (fun x=>⟨x.1,x.2.1,x.2.2.1,x.2.2.2⟩) (fun p=>(p.Said,p.Due,p.Got,p.Closed)) (fun _=>rfl)
def bankL:LP Bank:=((a4L iL).seq (iL.seq (iL.seq iL))).map (fun x=>⟨x.1,x.2.1,x.2.2.1,x.2.2.2⟩) (fun p=>(p.Free,p.Bonded,p.Waiting,p.Burnt)) (fun _=>rfl)
def zzm:LP Head:=(iL.seq (iL.seq (iL.seq iL))).map (fun x=>⟨x.1,x.2.1,x.2.2.1,x.2.2.2⟩) (fun p=>(p.Height,p.Time,p.Said,p.Got)) (fun _=>rfl)
def zn:LP zb:=(bL.seq (bL.seq (iL.seq (iL.seq (iL.seq ((LP.one zg).seq ((LP.one zaz).seq ((LP.one znw).seq ((a6L bL).seq (lineL.seq zzm)))))))))).map
 (fun x=>⟨x.1,x.2.1,x.2.2.1,x.2.2.2.1,x.2.2.2.2.1,x.2.2.2.2.2.1,x.2.2.2.2.2.2.1,x.2.2.2.2.2.2.2.1,x.2.2.2.2.2.2.2.2.1,x.2.2.2.2.2.2.2.2.2.1,x.2.2.2.2.2.2.2.2.2.2⟩)
 (fun p=>(p.On,p.Gone,p.Height,p.Time,p.Id,p.Set,p.Pending,p.Ripes,p.Flags,p.Out,p.Seen)) (fun _=>rfl)
def zen:LP zi:=(iL.seq (iL.seq (iL.seq (bL.seq bL)))).map (fun x=>⟨x.1,x.2.1,x.2.2.1,x.2.2.2.1,x.2.2.2.2⟩) (fun p=>(p.Tokens,p.Shares,p.Lost,p.Jailed,p.Dead)) (fun _=>rfl)
def validatorsL:LP Validators:=(a6L zen).map (fun a=>⟨⟨a.x0.Tokens,a.x1.Tokens,a.x2.Tokens,a.x3.Tokens,a.x4.Tokens,a.x5.Tokens⟩,⟨a.x0.Shares,a.x1.Shares,a.x2.Shares,a.x3.Shares,a.x4.Shares,a.x5.Shares⟩,⟨a.x0.Lost,a.x1.Lost,a.x2.Lost,a.x3.Lost,a.x4.Lost,a.x5.Lost⟩,⟨a.x0.Jailed,a.x1.Jailed,a.x2.Jailed,a.x3.Jailed,a.x4.Jailed,a.x5.Jailed⟩,⟨a.x0.Dead,a.x1.Dead,a.x2.Dead,a.x3.Dead,a.x4.Dead,a.x5.Dead⟩⟩)
 (fun p=>⟨⟨p.Tokens.x0,p.Shares.x0,p.Lost.x0,p.Jailed.x0,p.Dead.x0⟩,⟨p.Tokens.x1,p.Shares.x1,p.Lost.x1,p.Jailed.x1,p.Dead.x1⟩,⟨p.Tokens.x2,p.Shares.x2,p.Lost.x2,p.Jailed.x2,p.Dead.x2⟩,⟨p.Tokens.x3,p.Shares.x3,p.Lost.x3,p.Jailed.x3,p.Dead.x3⟩,⟨p.Tokens.x4,p.Shares.x4,p.Lost.x4,p.Jailed.x4,p.Dead.x4⟩,⟨p.Tokens.x5,p.Shares.x5,p.Lost.x5,p.Jailed.x5,p.Dead.x5⟩⟩) (fun _=>rfl)
def stakeL:LP Stake:=(bankL.seq (validatorsL.seq ((a4L (a6L iL)).seq ((LP.one zca).seq iL)))).map (fun x=>⟨x.1,x.2.1,x.2.2.1,x.2.2.2.1,x.2.2.2.2⟩) (fun p=>(p.Bank,p.Validators,p.Shares,p.Waits,p.Next)) (fun _=>rfl)
def zat9:LP Link:=(bL.seq (bL.seq (iL.seq ((LP.one zg).seq (bL.seq ((LP.one zbc).seq (lineL.seq zzm))))))).map (fun x=>⟨x.1,x.2.1,x.2.2.1,x.2.2.2.1,x.2.2.2.2.1,x.2.2.2.2.2.1,x.2.2.2.2.2.2.1,x.2.2.2.2.2.2.2⟩)
 (fun p=>(p.On,p.Gone,p.Base,p.Told,p.Fresh,p.Done,p.Out,p.Seen)) (fun _=>rfl)
def linksL:LP Links:=(a2L zat9).map (fun a=>⟨⟨a.x0.On,a.x1.On⟩,⟨a.x0.Gone,a.x1.Gone⟩,⟨a.x0.Base,a.x1.Base⟩,⟨a.x0.Told,a.x1.Told⟩,⟨a.x0.Fresh,a.x1.Fresh⟩,⟨a.x0.Done,a.x1.Done⟩,⟨a.x0.Out.Said,a.x1.Out.Said⟩,⟨a.x0.Out.Due,a.x1.Out.Due⟩,⟨a.x0.Out.Got,a.x1.Out.Got⟩,⟨a.x0.Out.Closed,a.x1.Out.Closed⟩,⟨a.x0.Seen.Height,a.x1.Seen.Height⟩,⟨a.x0.Seen.Time,a.x1.Seen.Time⟩,⟨a.x0.Seen.Said,a.x1.Seen.Said⟩,⟨a.x0.Seen.Got,a.x1.Seen.Got⟩⟩)
 (fun p=>⟨⟨p.On.x0,p.Gone.x0,p.Base.x0,p.Told.x0,p.Fresh.x0,p.Done.x0,⟨p.Said.x0,p.Due.x0,p.Got.x0,p.Closed.x0⟩,⟨p.SHeight.x0,p.STime.x0,p.SSaid.x0,p.SGot.x0⟩⟩,⟨p.On.x1,p.Gone.x1,p.Base.x1,p.Told.x1,p.Fresh.x1,p.Done.x1,⟨p.Said.x1,p.Due.x1,p.Got.x1,p.Closed.x1⟩,⟨p.SHeight.x1,p.STime.x1,p.SSaid.x1,p.SGot.x1⟩⟩⟩) (fun _=>rfl)
def providerL:LP za:=(iL.seq (iL.seq (stakeL.seq ((LP.one zg).seq (linksL.seq (meterL.seq (LP.one zal))))))).map (fun x=>⟨x.1,x.2.1,x.2.2.1,x.2.2.2.1,x.2.2.2.2.1,x.2.2.2.2.2.1,x.2.2.2.2.2.2⟩)
 (fun p=>(p.Height,p.Time,p.Stake,p.Set,p.Links,p.Meter,p.Queue)) (fun _=>rfl)
def consumersL:LP zd9:=(a2L zn).map (fun a=>⟨⟨a.x0.On,a.x1.On⟩,⟨a.x0.Gone,a.x1.Gone⟩,⟨a.x0.Height,a.x1.Height⟩,⟨a.x0.Time,a.x1.Time⟩,⟨a.x0.Id,a.x1.Id⟩,⟨a.x0.Set,a.x1.Set⟩,⟨a.x0.Pending,a.x1.Pending⟩,⟨a.x0.Ripes,a.x1.Ripes⟩,⟨a.x0.Flags.x0,a.x1.Flags.x0⟩,⟨a.x0.Flags.x1,a.x1.Flags.x1⟩,⟨a.x0.Flags.x2,a.x1.Flags.x2⟩,⟨a.x0.Flags.x3,a.x1.Flags.x3⟩,⟨a.x0.Flags.x4,a.x1.Flags.x4⟩,⟨a.x0.Flags.x5,a.x1.Flags.x5⟩,⟨a.x0.Out.Said,a.x1.Out.Said⟩,⟨a.x0.Out.Due,a.x1.Out.Due⟩,⟨a.x0.Out.Got,a.x1.Out.Got⟩,⟨a.x0.Out.Closed,a.x1.Out.Closed⟩,⟨a.x0.Seen.Height,a.x1.Seen.Height⟩,⟨a.x0.Seen.Time,a.x1.Seen.Time⟩,⟨a.x0.Seen.Said,a.x1.Seen.Said⟩,⟨a.x0.Seen.Got,a.x1.Seen.Got⟩⟩)
 (fun p=>⟨⟨p.On.x0,p.Gone.x0,p.Height.x0,p.Time.x0,p.Id.x0,p.Set.x0,p.Pending.x0,p.Ripes.x0,⟨p.F0.x0,p.F1.x0,p.F2.x0,p.F3.x0,p.F4.x0,p.F5.x0⟩,⟨p.Said.x0,p.Due.x0,p.Got.x0,p.Closed.x0⟩,⟨p.SHeight.x0,p.STime.x0,p.SSaid.x0,p.SGot.x0⟩⟩,⟨p.On.x1,p.Gone.x1,p.Height.x1,p.Time.x1,p.Id.x1,p.Set.x1,p.Pending.x1,p.Ripes.x1,⟨p.F0.x1,p.F1.x1,p.F2.x1,p.F3.x1,p.F4.x1,p.F5.x1⟩,⟨p.Said.x1,p.Due.x1,p.Got.x1,p.Closed.x1⟩,⟨p.SHeight.x1,p.STime.x1,p.SSaid.x1,p.SGot.x1⟩⟩⟩) (fun _=>rfl)
def headsL:LP z6y:=(a2L (a2L zzm)).map (fun a=>⟨⟨a.x0.x0.Height,a.x1.x0.Height⟩,⟨a.x0.x0.Time,a.x1.x0.Time⟩,⟨a.x0.x0.Said,a.x1.x0.Said⟩,⟨a.x0.x0.Got,a.x1.x0.Got⟩,⟨a.x0.x1.Height,a.x1.x1.Height⟩,⟨a.x0.x1.Time,a.x1.x1.Time⟩,⟨a.x0.x1.Said,a.x1.x1.Said⟩,⟨a.x0.x1.Got,a.x1.x1.Got⟩⟩)
 (fun p=>⟨⟨⟨p.PHeight.x0,p.PTime.x0,p.PSaid.x0,p.PGot.x0⟩,⟨p.CHeight.x0,p.CTime.x0,p.CSaid.x0,p.CGot.x0⟩⟩,⟨⟨p.PHeight.x1,p.PTime.x1,p.PSaid.x1,p.PGot.x1⟩,⟨p.CHeight.x1,p.CTime.x1,p.CSaid.x1,p.CGot.x1⟩⟩⟩) (fun _=>rfl)
def headsRL:LP z18:=(a2L zzm).map (fun a=>⟨⟨a.x0.Height,a.x1.Height⟩,⟨a.x0.Time,a.x1.Time⟩,⟨a.x0.Said,a.x1.Said⟩,⟨a.x0.Got,a.x1.Got⟩⟩)
 (fun p=>⟨⟨p.Height.x0,p.Time.x0,p.Said.x0,p.Got.x0⟩,⟨p.Height.x1,p.Time.x1,p.Said.x1,p.Got.x1⟩⟩) (fun _=>rfl)
def wldL:LP Wld:=(iL.seq (providerL.seq (consumersL.seq (headsL.seq iL)))).map (fun x=>⟨x.1,x.2.1,x.2.2.1,x.2.2.2.1,x.2.2.2.2⟩) (fun p=>(p.clock,p.p,p.consumers,p.heads,p.deeds)) (fun _=>rfl)
def zv2:LP zt5:=(iL.seq (iL.seq (providerL.seq (consumersL.seq (headsRL.seq headsRL))))).map (fun x=>⟨x.1,x.2.1,x.2.2.1,x.2.2.2.1,x.2.2.2.2.1,x.2.2.2.2.2⟩) (fun p=>(p.Clock,p.Deeds,p.P,p.C,p.HeadP,p.HeadC)) (fun _=>rfl)
def z73:LP zf4:=((LP.one z43).seq bL).map (fun x=>⟨x.1,x.2⟩) (fun p=>(p.s,p.bad)) (fun _=>rfl)
