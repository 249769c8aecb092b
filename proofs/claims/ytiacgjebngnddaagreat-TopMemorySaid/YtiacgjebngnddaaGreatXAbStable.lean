/-
  The walk over abstract states.
-/
import Derived.Shelf.GgSortFunc.SmallK
import Derived.Shelf.GgSortMore.Stable
namespace Go.Proofs
open Go.Shelf Go.RowKit Go.Lib Go.Sort
variable {P:Program} {ρ:Ren} {α:Type} [Inhabited α]
set_option maxHeartbeats 1600000 in
set_option maxRecDepth 100000 in
theorem YtiacgjebngnddaaGreat.stable_func_cells (L:LaysGt.n15 P ρ) (enc:α→List Value) (k:Nat) (hk:∀ x,(enc x).length=k) (lt:α→α→Bool) (g:Nat) (lb:Array Value) (sf:Nat) (sb:Array Value) (blk off:Nat) (d:Array α) (W:World)
  (eg:∀ args w,(callFunc g args).run P w=.ok (.enter g args) w) (hless:LessReadsK P g lb enc k lt blk off d.size W) (hswap:SwapSwapsK P sf sb enc k blk off d.size)
  (hH:HoldsK enc k W blk off d) (hblk:blk < W.heap.size) (h20:d.size < 20) :
  Calls P (ρ.f 15) #[.agg #[.func (.func g) #[] lb,.func (.func sf) #[] sb],.int .i64 d.size] W fun e w'=>e=.returned (.tuple #[])∧∃ n os,w'=sortWorldK enc k W blk off n (Sort.insertionSort lt d 0 d.size) os:=by
 have mixed:=L.mixed;have t0:=L.t0;have a0:=L.a0;have z0:=L.z0;have v0:=L.v0;have t3:=L.t3;have a3:=L.a3;have z3:=L.z3;have v3:=L.v3;have t4:=L.t4;have a4:=L.a4;have z4:=L.z4;have v4:=L.v4;have t26:=L.t26;have a26:=L.a26;have z26:=L.z26;have v26:=L.v26;have t38:=L.t38;have a38:=L.a38;have z38:=L.z38;have v38:=L.v38;have t42:=L.t42;have a42:=L.a42;have z42:=L.z42;have v42:=L.v42;have t47:=L.t47;have a47:=L.a47;have z47:=L.z47;have v47:=L.v47
 have u42:=run_underlying L.t42
 have e29:∀ args w,(callFunc (ρ.f 29) args).run P w=.ok (.enter (ρ.f 29) args) w:=enters_of L.f29 (by kernel_rfl) rfl
 have LI:LaysGg.n26 P ρ.viaGt:=({ L with }:LaysGt.n29 P ρ).elder
 have hH1:HoldsK enc k (W.alloc (.cells #[.func (.func g) #[] lb,.func (.func sf) #[] sb] (ρ.t 42))) blk off d:=by rw[alloc_eq_grow];exact holdsK_grow enc k W _ blk off d hblk hH
 have hb1:blk < (W.alloc (.cells #[.func (.func g) #[] lb,.func (.func sf) #[] sb] (ρ.t 42))).heap.size:=by rw[alloc_eq_grow,size_grow];omega
 have hc:Calls P (ρ.f 29) #[.agg #[.func (.func g) #[] lb,.func (.func sf) #[] sb],.int .i64 (0:Nat),.int .i64 d.size] (W.alloc (.cells #[.func (.func g) #[] lb,.func (.func sf) #[] sb] (ρ.t 42))) fun e w'=>e=.returned (.tuple #[]) ∧
   ∃ n,w'=putRowK enc k (Sort.ahead ((W.alloc (.cells #[.func (.func g) #[] lb,.func (.func sf) #[] sb] (ρ.t 42))).alloc (.cells #[.func (.func g) #[] lb,.func (.func sf) #[] sb] (ρ.t 42))) n) blk off (Sort.insertionSort lt d 0 d.size) :=
  Any.insertionSort_func_cells LI enc k hk lt g lb sf sb blk off 0 d.size d _ eg (by rw[alloc_eq_grow];exact hless.grow hblk _) hswap hH1 hb1 (Nat.zero_le _) (Nat.le_refl _) (by omega)
 clear hless hswap hH hH1
 go_enter L.f15,BodyGt.n15_ntmps ρ
 go_wp2
 refine wp_loop_rounds 1 ?_
 rw[rounds_succ]
 go_wp2_with (go_at_fn (ρ.f 29);refine hc.mono ?_;rintro e w1 ⟨rfl,n,rfl⟩)
 refine wp_loop_rounds 1 ?_
 rw[rounds_succ]
 go_wp2
 all_goals first | (exfalso;omega) | (go_end0;exact ⟨rfl,n,_,by unfold sortWorldK;rw[alloc_eq_grow,alloc_eq_grow,grow_grow,ahead_grow,putRowK_grow enc k (Sort.ahead W n) _ blk off _ hblk]⟩)
theorem YtiacgjebngnddaaGreat.sort_SliceStable_cells (L:LaysGt.n8 P ρ) (t e:TypeId) (i ie:TypeInfo) (hi:P.info? t=some i) (hd:i.desc=.slice e) (hpk:P.packed t=false) (hie:P.info? e=some ie) (ke:Nat) (hke:∀ w,(Extern.Rtype.kind e).run P w=.ok ke w)
  (enc:α→List Value) (k:Nat) (hk:∀ x,(enc x).length=k) (hs1:ie.size=k) (hagg:∀ w,(isAgg e).run P w=.ok true w) (h1:∀ x,∀ v∈enc x,v.oneCell'=true) (lt:α→α→Bool) (g:Nat) (lb:Array Value)
  (eg:∀ args w,(callFunc g args).run P w=.ok (.enter g args) w) (blk off c:Nat) (d:Array α) (h2:2≤d.size) (h20:d.size < 20)
  (f : Nat) (hf : P.funcs.findIdx? (·.name == "internal/reflectlite" ++ ".Swapper$" ++ toString (swapperK d.size ie ke)) = some f)
  (gS:Bool) (hx:∀ args W,(callFunc f args).run P W=((Extern.ReflectliteSwapper.swap gS args).run P W).andThen fun v w'=>.ok (.value v) w')
  (w:World) (hless:LessReadsK P g lb enc k lt blk off d.size w) (hH:HoldsK enc k w blk off d) (hblk:blk < w.heap.size) :
  Calls P (ρ.f 8) #[.iface t (.slice (some ⟨blk,off,none⟩) d.size c),.func (.func g) #[] lb] w fun e w' =>
   e=.returned (.tuple #[])∧∃ n os,w'=grow (putRowK enc k (Sort.ahead w n) blk off (Sort.insertionSort lt d 0 d.size)) os:=by
 refine Any.sort_SliceStable_of_stable L t e i ie hi hd hpk hie ke hke _ d.size c (by omega) f hf (.func g) #[] lb w _ ?_
 have hB:sliceBound P e ie ke (some ⟨blk,off,none⟩) d.size c=#[.slice (some ⟨blk,off,none⟩) d.size c,typeHandle P e]:=by
  unfold sliceBound;rw[if_neg (swapperK_gt _ _ _ h2)]
 have hW:stableWorld P ρ t (some ⟨blk,off,none⟩) d.size c w=grow w #[.cells #[.slice (some ⟨blk,off,none⟩) d.size c] t,.cells #[.pointer (some ⟨P.globals.size,t,none⟩),.pointer (some ⟨w.heap.size,0,none⟩),.int .u64 151] (ρ.t 36)]:=by
  unfold stableWorld;rw[alloc_eq_grow,alloc_eq_grow,grow_grow];rfl
 generalize (#[.cells #[.slice (some ⟨blk,off,none⟩) d.size c] t,.cells #[.pointer (some ⟨P.globals.size,t,none⟩),.pointer (some ⟨w.heap.size,0,none⟩),.int .u64 151] (ρ.t 36)]:Array Obj)=os0 at hW
 rw[hB,hW]
 have hp:=YtiacgjebngnddaaGreat.stable_func_cells (P:=P) (ρ:=ρ) { L with } enc k hk lt g lb f _ blk off d (grow w os0) eg (hless.grow hblk os0)
  (swapSwapsK_of_literal gS f hx e ie hie enc k hk hs1 hagg h1 blk off d.size c) (holdsK_grow enc k w _ blk off d hblk hH) (by rw[size_grow];omega) h20
 refine hp.mono ?_
 rintro e w' ⟨rfl,n,os,rfl⟩
 exact ⟨rfl,n,_,by unfold sortWorldK;rw[ahead_grow,putRowK_grow enc k (Sort.ahead w n) _ blk off _ hblk,grow_grow]⟩
end Go.Proofs
