/-
  The walk over abstract states.
-/
import Derived.Test.YtiacgjebngnddaaGreatXAbC
import Derived.Test.YtiacgjebngnddaaGreatXAbStable
import Derived.Test.YtiacgjebngnddaaGreatChecked
import Derived.Deep.QuietTactic
import Derived.Ground.GgsProg
import Derived.Ground.GgtProg
import Derived.Shelf.Lay
namespace Go.Proofs
open Go.Shelf Go.RowKit Go.Lib Go.Sort
set_option linter.unusedVariables false
set_option linter.unusedSimpArgs false
shelf_lay LaysGg.n6 Ggs 6 at Tryz as Tryz.sortSlice
shelf_lay LaysGt.n8 Ggt 8 at Tryz as Tryz.sortStable
namespace YtiacgjebngnddaaGreat.Ab
noncomputable def zakl:TypeInfo:=(Tryz.prog.info? 44).get (by kernel_rfl)
noncomputable def sortE:TypeInfo:=(Tryz.prog.info? 83).get (by kernel_rfl)
theorem zasp (n:Nat) (h2:2≤n):Lib.swapperK n sortE 25=9:=by
 have a:sortE.hasPointers=false:=by kernel_rfl
 have b:sortE.bytes=16:=by kernel_rfl
 have c:(n==0)=false:=by simp;omega
 have d:(n==1)=false:=by simp;omega
 simp[Lib.swapperK,a,b,c,d]
def znn (p:Power):List Value:=[.int .i64 p.V,.int .i64 p.N]
def ltN (a b:Power):Bool:=decide (a.N > b.N)
def ltV (a b:Power):Bool:=decide (a.V < b.V)
set_option maxHeartbeats 2000000 in
theorem zasq (blk off c Bs size:Nat) (W:World) (G:Nat→Int) (hs:W.cell? ⟨Bs,0,none⟩=some (.slice (some ⟨blk,off,none⟩) size c))
  (hc:∀ t,t < size→W.cell? ⟨blk,off+t*2+1,none⟩=some (.int .i64 (G t))) (i j:Nat) (hi:i < size) (hj:j < size) (_hsz:size < 4611686018427387904) :
  Calls Tryz.prog 109 #[.int .i64 i,.int .i64 j,.pointer (some ⟨Bs,0,none⟩)] W fun e w'=>e=.returned (.bool (decide (G i > G j)))∧∃ q,w'=W.drewN q:=by
 have ci:=hc i hi
 have cj:=hc j hj
 go_enter Tryz.func109,Tryz.ntmps109
 go_wp2
 go_quiet (fail)
 go_wp2
 go_ret
 exact ⟨rfl,nq,rfl⟩
set_option maxHeartbeats 2000000 in
theorem zasr (blk off c Bs size:Nat) (W:World) (G:Nat→Int) (hs:W.cell? ⟨Bs,0,none⟩=some (.slice (some ⟨blk,off,none⟩) size c))
  (hc:∀ t,t < size→W.cell? ⟨blk,off+t*2,none⟩=some (.int .i64 (G t))) (i j:Nat) (hi:i < size) (hj:j < size) (_hsz:size < 4611686018427387904) :
  Calls Tryz.prog 111 #[.int .i64 i,.int .i64 j,.pointer (some ⟨Bs,0,none⟩)] W fun e w'=>e=.returned (.bool (decide (G i < G j)))∧∃ q,w'=W.drewN q:=by
 have ci:=hc i hi
 have cj:=hc j hj
 go_enter Tryz.func111,Tryz.ntmps111
 go_wp2
 go_quiet (fail)
 go_wp2
 go_ret
 exact ⟨rfl,nq,rfl⟩
theorem zass (g:Nat) (lt:Power→Power→Bool) (blk Bs c:Nat) (d:Array Power) (w:World) (hs:w.cell? ⟨Bs,0,none⟩=some (.slice (some ⟨blk,0,none⟩) d.size c)) (hH:HoldsK znn 2 w blk 0 d)
  (hblk:blk < w.heap.size) (hne:Bs≠blk) (hB:Bs < w.heap.size)
  (key:∀ (W:World) (dk:Array Power),dk.size=d.size→W.cell? ⟨Bs,0,none⟩=some (.slice (some ⟨blk,0,none⟩) d.size c)→(∀ t,t < d.size→W.cell? ⟨blk,0+t*2,none⟩=some (.int .i64 dk[t]!.V)∧W.cell? ⟨blk,0+t*2+1,none⟩=some (.int .i64 dk[t]!.N)) →
   ∀ i j:Nat,i < d.size→j < d.size→Calls Tryz.prog g #[.int .i64 i,.int .i64 j,.pointer (some ⟨Bs,0,none⟩)] W fun e w'=>e=.returned (.bool (lt dk[i]! dk[j]!))∧∃ q,w'=W.drewN q) :
  LessReadsK Tryz.prog g #[.pointer (some ⟨Bs,0,none⟩)] znn 2 lt blk 0 d.size w:=by
 intro m os dk hsz i j hi hj
 have e:sortWorldK znn 2 w blk 0 m dk os=putRowK znn 2 (grow (Sort.ahead w m) os) blk 0 dk:=by
  unfold sortWorldK;rw[putRowK_grow _ _ (Sort.ahead w m) _ blk 0 _ hblk]
 have hHg:HoldsK znn 2 (grow (Sort.ahead w m) os) blk 0 d:=holdsK_grow _ _ _ _ blk 0 d hblk (holdsK_ahead _ _ _ _ _ _ _ hH)
 refine key _ dk hsz ?_ (fun t ht=>?_) i j hi hj
 ·rw[e,cell?_putRowK_other _ _ _ blk 0 dk _ hne,cell?_grow _ _ _ (by exact hB)]
  exact hs
 ·rw[e]
  have h0:=((holdsK_putRowK _ _ _ blk 0 d dk hHg hsz).cell (i:=t) (c:=0) (by omega) (by omega)).1
  have h1:=((holdsK_putRowK _ _ _ blk 0 d dk hHg hsz).cell (i:=t) (c:=1) (by omega) (by omega)).1
  exact ⟨h0,h1⟩
theorem zaa0 (blk Bs c:Nat) (d:Array Power) (w:World) (hs:w.cell? ⟨Bs,0,none⟩=some (.slice (some ⟨blk,0,none⟩) d.size c)) (hH:HoldsK znn 2 w blk 0 d) (hblk:blk < w.heap.size) (hne:Bs≠blk) (hB:Bs < w.heap.size)
  (h2:2≤d.size) (h12:d.size≤12) :
  Calls Tryz.prog 108 #[.iface 44 (.slice (some ⟨blk,0,none⟩) d.size c),.func (.func 109) #[] #[.pointer (some ⟨Bs,0,none⟩)]] w fun e w' =>
   e=.returned (.tuple #[])∧∃ n os,w'=grow (putRowK znn 2 (Sort.ahead w n) blk 0 (Sort.insertionSort ltN d 0 d.size)) os:=by
 have hless:LessReadsK Tryz.prog 109 #[.pointer (some ⟨Bs,0,none⟩)] znn 2 ltN blk 0 d.size w :=
  zass _ ltN blk Bs c d w hs hH hblk hne hB fun W dk hsz h1 h2 i j hi hj=>zasq blk 0 c Bs d.size W (fun t=>dk[t]!.N) h1 (fun t ht=>(h2 t ht).2) i j hi hj (by omega)
 exact YtiacgjebngnddaaGreat.sort_SliceStable_cells Tryz.sortStable 44 83 zakl sortE (by kernel_rfl) (by kernel_rfl) (by kernel_rfl) (by kernel_rfl) 25 (fun _=>by kernel_rfl) znn 2 (fun _=>rfl) (by kernel_rfl) (fun _=>by kernel_rfl)
  (fun x v hv=>by simp[znn] at hv;rcases hv with rfl | rfl<;>rfl) ltN 109 _
  (enters_of Tryz.func109 (by kernel_rfl) rfl) blk 0 c d h2 (by omega) 150 (by rw[zasp _ h2];kernel_rfl) false
  (fun args W=>run_callFunc_extern Tryz.func150 (by kernel_rfl) (by kernel_rfl) (by kernel_rfl) (e:=Extern.ReflectliteSwapper.swap false) (by kernel_rfl) args W) _ hless hH hblk
theorem zaeu (blk Bs c:Nat) (d:Array Power) (w:World) (hs:w.cell? ⟨Bs,0,none⟩=some (.slice (some ⟨blk,0,none⟩) d.size c)) (hH:HoldsK znn 2 w blk 0 d) (hblk:blk < w.heap.size) (hne:Bs≠blk) (hB:Bs < w.heap.size)
  (h2:2≤d.size) (h12:d.size≤12) :
  Calls Tryz.prog 110 #[.iface 44 (.slice (some ⟨blk,0,none⟩) d.size c),.func (.func 111) #[] #[.pointer (some ⟨Bs,0,none⟩)]] w fun e w' =>
   e=.returned (.tuple #[])∧∃ n os,w'=grow (putRowK znn 2 (Sort.ahead w n) blk 0 (Sort.insertionSort ltV d 0 d.size)) os:=by
 have hless:LessReadsK Tryz.prog 111 #[.pointer (some ⟨Bs,0,none⟩)] znn 2 ltV blk 0 d.size w :=
  zass _ ltV blk Bs c d w hs hH hblk hne hB fun W dk hsz h1 h2 i j hi hj=>zasr blk 0 c Bs d.size W (fun t=>dk[t]!.V) h1 (fun t ht=>(h2 t ht).1) i j hi hj (by omega)
 exact Any.sort_Slice_small_cells Tryz.sortSlice 44 83 zakl sortE (by kernel_rfl) (by kernel_rfl) (by kernel_rfl) (by kernel_rfl) 25 (fun _=>by kernel_rfl) znn 2 (fun _=>rfl) (by kernel_rfl) (fun _=>by kernel_rfl)
  (fun x v hv=>by simp[znn] at hv;rcases hv with rfl | rfl<;>rfl) ltV 111 _
  (enters_of Tryz.func111 (by kernel_rfl) rfl) blk 0 c d h2 h12 150 (by rw[zasp _ h2];kernel_rfl) false
  (fun args W=>run_callFunc_extern Tryz.func150 (by kernel_rfl) (by kernel_rfl) (by kernel_rfl) (e:=Extern.ReflectliteSwapper.swap false) (by kernel_rfl) args W) _ hless hH hblk
end YtiacgjebngnddaaGreat.Ab
end Go.Proofs
