/-
  The walk over abstract states.
-/
import Derived.Test.YtiacgjebngnddaaGreatXAbC
import Derived.Test.YtiacgjebngnddaaGreatXAbStable
import Derived.Test.YtiacgjebngnddaaGreatChecked
import Derived.Deep.QuietTactic
import Derived.Ground.GgsProg
import Derived.Ground.GgtProg
import Derived.Shelf.Abstract
namespace Go.Proofs
open Go.Shelf Go.RowKit Go.Lib Go.Sort
set_option linter.unusedVariables false
set_option linter.unusedSimpArgs false
theorem Tryz.lay {l : Option Go.Func} {a b : Go.Func} (h : l = some a) (e : a = b) : l = some b := h.trans (congrArg some e)
def Tryz.sortSlice_ren : Go.Shelf.Ren := ⟨fun | 6 => 110 | 10 => 130 | 11 => 131 | 12 => 133 | 13 => 134 | 14 => 135 | 24 => 153 | 25 => 139 | 26 => 151 | 27 => 154 | 28 => 155 | 29 => 156 | 30 => 157 | 31 => 158 | 32 => 159 | 33 => 160 | 34 => 163 | 35 => 164 | 36 => 165 | 37 => 166 | 38 => 167 | 39 => 169 | n => n, fun | 20 => 20 | 26 => 192 | 35 => 213 | 0 => 0 | 37 => 215 | 3 => 3 | 41 => 119 | 44 => 219 | 49 => 230 | 51 => 178 | 4 => 4 | 54 => 232 | 53 => 231 | 58 => 188 | 5 => 5 | 9 => 9 | 60 => 238 | 64 => 206 | 66 => 243 | 67 => 244 | 17 => 17 | 32 => 210 | 33 => 211 | 82 => 259 | 12 => 12 | 75 => 252 | 76 => 253 | 77 => 254 | 78 => 255 | 79 => 256 | 80 => 257 | n => n, fun | n => n⟩
theorem Tryz.sortSlice : Go.Proofs.LaysGg.n6 Tryz.prog Tryz.sortSlice_ren := {
 mixed := by kernel_rfl
 f6 := Tryz.lay Tryz.func110 (by kernel_rfl)
 f10 := Tryz.lay Tryz.func130 (by kernel_rfl)
 f11 := Tryz.lay Tryz.func131 (by kernel_rfl)
 f12 := Tryz.lay Tryz.func133 (by kernel_rfl)
 f13 := Tryz.lay Tryz.func134 (by kernel_rfl)
 f14 := Tryz.lay Tryz.func135 (by kernel_rfl)
 f24 := Tryz.lay Tryz.func153 (by kernel_rfl)
 f25 := Tryz.lay Tryz.func139 (by kernel_rfl)
 f26 := Tryz.lay Tryz.func151 (by kernel_rfl)
 f27 := Tryz.lay Tryz.func154 (by kernel_rfl)
 f28 := Tryz.lay Tryz.func155 (by kernel_rfl)
 f29 := Tryz.lay Tryz.func156 (by kernel_rfl)
 f30 := Tryz.lay Tryz.func157 (by kernel_rfl)
 f31 := Tryz.lay Tryz.func158 (by kernel_rfl)
 f32 := Tryz.lay Tryz.func159 (by kernel_rfl)
 f33 := Tryz.lay Tryz.func160 (by kernel_rfl)
 f34 := Tryz.lay Tryz.func163 (by kernel_rfl)
 f35 := Tryz.lay Tryz.func164 (by kernel_rfl)
 f36 := Tryz.lay Tryz.func165 (by kernel_rfl)
 f37 := Tryz.lay Tryz.func166 (by kernel_rfl)
 f38 := Tryz.lay Tryz.func167 (by kernel_rfl)
 f39 := Tryz.lay Tryz.func169 (by kernel_rfl)
 t0 := Tryz.underlying0
 a0 := Tryz.isAgg0
 z0 := Tryz.sizeOf0
 v0 := Tryz.zeroValue0
 i0 := by kernel_rfl
 t3 := Tryz.underlying3
 a3 := Tryz.isAgg3
 z3 := Tryz.sizeOf3
 v3 := Tryz.zeroValue3
 i3 := by kernel_rfl
 t4 := Tryz.underlying4
 a4 := Tryz.isAgg4
 z4 := Tryz.sizeOf4
 v4 := Tryz.zeroValue4
 i4 := by kernel_rfl
 t5 := Tryz.underlying5
 a5 := Tryz.isAgg5
 z5 := Tryz.sizeOf5
 v5 := Tryz.zeroValue5
 i5 := by kernel_rfl
 t9 := Tryz.underlying9
 a9 := Tryz.isAgg9
 z9 := Tryz.sizeOf9
 v9 := Tryz.zeroValue9
 i9 := by kernel_rfl
 t12 := Tryz.underlying12
 a12 := Tryz.isAgg12
 z12 := Tryz.sizeOf12
 v12 := Tryz.zeroValue12
 i12 := by kernel_rfl
 t17 := Tryz.underlying17
 a17 := Tryz.isAgg17
 z17 := Tryz.sizeOf17
 v17 := Tryz.zeroValue17
 i17 := by kernel_rfl
 t20 := Tryz.underlying20
 a20 := Tryz.isAgg20
 z20 := Tryz.sizeOf20
 v20 := Tryz.zeroValue20
 i20 := by kernel_rfl
 t26 := Tryz.underlying192
 a26 := Tryz.isAgg192
 z26 := Tryz.sizeOf192
 v26 := Tryz.zeroValue192
 i26 := by kernel_rfl
 t32 := Tryz.underlying210
 a32 := Tryz.isAgg210
 z32 := Tryz.sizeOf210
 v32 := Tryz.zeroValue210
 i32 := by kernel_rfl
 t33 := Tryz.underlying211
 a33 := Tryz.isAgg211
 z33 := Tryz.sizeOf211
 v33 := Tryz.zeroValue211
 i33 := by kernel_rfl
 t35 := Tryz.underlying213
 a35 := Tryz.isAgg213
 z35 := Tryz.sizeOf213
 v35 := Tryz.zeroValue213
 i35 := by kernel_rfl
 t37 := Tryz.underlying215
 a37 := Tryz.isAgg215
 z37 := Tryz.sizeOf215
 v37 := Tryz.zeroValue215
 i37 := by kernel_rfl
 t41 := Tryz.underlying119
 a41 := Tryz.isAgg119
 z41 := Tryz.sizeOf119
 v41 := Tryz.zeroValue119
 i41 := by kernel_rfl
 t44 := Tryz.underlying219
 a44 := Tryz.isAgg219
 z44 := Tryz.sizeOf219
 v44 := Tryz.zeroValue219
 i44 := by kernel_rfl
 t49 := Tryz.underlying230
 a49 := Tryz.isAgg230
 z49 := Tryz.sizeOf230
 v49 := Tryz.zeroValue230
 i49 := by kernel_rfl
 t51 := Tryz.underlying178
 a51 := Tryz.isAgg178
 z51 := Tryz.sizeOf178
 v51 := Tryz.zeroValue178
 i51 := by kernel_rfl
 t53 := Tryz.underlying231
 a53 := Tryz.isAgg231
 z53 := Tryz.sizeOf231
 v53 := Tryz.zeroValue231
 i53 := by kernel_rfl
 t54 := Tryz.underlying232
 a54 := Tryz.isAgg232
 z54 := Tryz.sizeOf232
 v54 := Tryz.zeroValue232
 i54 := by kernel_rfl
 t58 := Tryz.underlying188
 a58 := Tryz.isAgg188
 z58 := Tryz.sizeOf188
 v58 := Tryz.zeroValue188
 i58 := by kernel_rfl
 t60 := Tryz.underlying238
 a60 := Tryz.isAgg238
 z60 := Tryz.sizeOf238
 v60 := Tryz.zeroValue238
 i60 := by kernel_rfl
 t64 := Tryz.underlying206
 a64 := Tryz.isAgg206
 z64 := Tryz.sizeOf206
 v64 := Tryz.zeroValue206
 i64 := by kernel_rfl
 t66 := Tryz.underlying243
 a66 := Tryz.isAgg243
 z66 := Tryz.sizeOf243
 v66 := Tryz.zeroValue243
 i66 := by kernel_rfl
 t67 := Tryz.underlying244
 a67 := Tryz.isAgg244
 z67 := Tryz.sizeOf244
 v67 := Tryz.zeroValue244
 i67 := by kernel_rfl
 t75 := Tryz.underlying252
 a75 := Tryz.isAgg252
 z75 := Tryz.sizeOf252
 v75 := Tryz.zeroValue252
 i75 := by kernel_rfl
 t76 := Tryz.underlying253
 a76 := Tryz.isAgg253
 z76 := Tryz.sizeOf253
 v76 := Tryz.zeroValue253
 i76 := by kernel_rfl
 t77 := Tryz.underlying254
 a77 := Tryz.isAgg254
 z77 := Tryz.sizeOf254
 v77 := Tryz.zeroValue254
 i77 := by kernel_rfl
 t78 := Tryz.underlying255
 a78 := Tryz.isAgg255
 z78 := Tryz.sizeOf255
 v78 := Tryz.zeroValue255
 i78 := by kernel_rfl
 t79 := Tryz.underlying256
 a79 := Tryz.isAgg256
 z79 := Tryz.sizeOf256
 v79 := Tryz.zeroValue256
 i79 := by kernel_rfl
 t80 := Tryz.underlying257
 a80 := Tryz.isAgg257
 z80 := Tryz.sizeOf257
 v80 := Tryz.zeroValue257
 i80 := by kernel_rfl
 t82 := Tryz.underlying259
 a82 := Tryz.isAgg259
 z82 := Tryz.sizeOf259
 v82 := Tryz.zeroValue259
 i82 := by kernel_rfl }
def Tryz.sortStable_ren : Go.Shelf.Ren := ⟨fun | 8 => 108 | 13 => 130 | 14 => 131 | 16 => 133 | 15 => 132 | 29 => 151 | 30 => 152 | 42 => 162 | 49 => 168 | n => n, fun | 20 => 20 | 26 => 192 | 36 => 213 | 0 => 0 | 38 => 215 | 42 => 219 | 3 => 3 | 4 => 4 | 47 => 119 | 17 => 17 | 33 => 210 | 34 => 211 | 89 => 259 | 12 => 12 | 56 => 230 | 82 => 252 | 5 => 5 | 83 => 253 | 84 => 254 | 85 => 255 | 86 => 256 | 87 => 257 | n => n, fun | n => n⟩
theorem Tryz.sortStable : Go.Proofs.LaysGt.n8 Tryz.prog Tryz.sortStable_ren := {
 mixed := by kernel_rfl
 f8 := Tryz.lay Tryz.func108 (by kernel_rfl)
 f13 := Tryz.lay Tryz.func130 (by kernel_rfl)
 f14 := Tryz.lay Tryz.func131 (by kernel_rfl)
 f15 := Tryz.lay Tryz.func132 (by kernel_rfl)
 f16 := Tryz.lay Tryz.func133 (by kernel_rfl)
 f29 := Tryz.lay Tryz.func151 (by kernel_rfl)
 f30 := Tryz.lay Tryz.func152 (by kernel_rfl)
 f42 := Tryz.lay Tryz.func162 (by kernel_rfl)
 f49 := Tryz.lay Tryz.func168 (by kernel_rfl)
 t0 := Tryz.underlying0
 a0 := Tryz.isAgg0
 z0 := Tryz.sizeOf0
 v0 := Tryz.zeroValue0
 i0 := by kernel_rfl
 t3 := Tryz.underlying3
 a3 := Tryz.isAgg3
 z3 := Tryz.sizeOf3
 v3 := Tryz.zeroValue3
 i3 := by kernel_rfl
 t4 := Tryz.underlying4
 a4 := Tryz.isAgg4
 z4 := Tryz.sizeOf4
 v4 := Tryz.zeroValue4
 i4 := by kernel_rfl
 t5 := Tryz.underlying5
 a5 := Tryz.isAgg5
 z5 := Tryz.sizeOf5
 v5 := Tryz.zeroValue5
 i5 := by kernel_rfl
 t12 := Tryz.underlying12
 a12 := Tryz.isAgg12
 z12 := Tryz.sizeOf12
 v12 := Tryz.zeroValue12
 i12 := by kernel_rfl
 t17 := Tryz.underlying17
 a17 := Tryz.isAgg17
 z17 := Tryz.sizeOf17
 v17 := Tryz.zeroValue17
 i17 := by kernel_rfl
 t20 := Tryz.underlying20
 a20 := Tryz.isAgg20
 z20 := Tryz.sizeOf20
 v20 := Tryz.zeroValue20
 i20 := by kernel_rfl
 t26 := Tryz.underlying192
 a26 := Tryz.isAgg192
 z26 := Tryz.sizeOf192
 v26 := Tryz.zeroValue192
 i26 := by kernel_rfl
 t33 := Tryz.underlying210
 a33 := Tryz.isAgg210
 z33 := Tryz.sizeOf210
 v33 := Tryz.zeroValue210
 i33 := by kernel_rfl
 t34 := Tryz.underlying211
 a34 := Tryz.isAgg211
 z34 := Tryz.sizeOf211
 v34 := Tryz.zeroValue211
 i34 := by kernel_rfl
 t36 := Tryz.underlying213
 a36 := Tryz.isAgg213
 z36 := Tryz.sizeOf213
 v36 := Tryz.zeroValue213
 i36 := by kernel_rfl
 t38 := Tryz.underlying215
 a38 := Tryz.isAgg215
 z38 := Tryz.sizeOf215
 v38 := Tryz.zeroValue215
 i38 := by kernel_rfl
 t42 := Tryz.underlying219
 a42 := Tryz.isAgg219
 z42 := Tryz.sizeOf219
 v42 := Tryz.zeroValue219
 i42 := by kernel_rfl
 t47 := Tryz.underlying119
 a47 := Tryz.isAgg119
 z47 := Tryz.sizeOf119
 v47 := Tryz.zeroValue119
 i47 := by kernel_rfl
 t56 := Tryz.underlying230
 a56 := Tryz.isAgg230
 z56 := Tryz.sizeOf230
 v56 := Tryz.zeroValue230
 i56 := by kernel_rfl
 t82 := Tryz.underlying252
 a82 := Tryz.isAgg252
 z82 := Tryz.sizeOf252
 v82 := Tryz.zeroValue252
 i82 := by kernel_rfl
 t83 := Tryz.underlying253
 a83 := Tryz.isAgg253
 z83 := Tryz.sizeOf253
 v83 := Tryz.zeroValue253
 i83 := by kernel_rfl
 t84 := Tryz.underlying254
 a84 := Tryz.isAgg254
 z84 := Tryz.sizeOf254
 v84 := Tryz.zeroValue254
 i84 := by kernel_rfl
 t85 := Tryz.underlying255
 a85 := Tryz.isAgg255
 z85 := Tryz.sizeOf255
 v85 := Tryz.zeroValue255
 i85 := by kernel_rfl
 t86 := Tryz.underlying256
 a86 := Tryz.isAgg256
 z86 := Tryz.sizeOf256
 v86 := Tryz.zeroValue256
 i86 := by kernel_rfl
 t87 := Tryz.underlying257
 a87 := Tryz.isAgg257
 z87 := Tryz.sizeOf257
 v87 := Tryz.zeroValue257
 i87 := by kernel_rfl
 t89 := Tryz.underlying259
 a89 := Tryz.isAgg259
 z89 := Tryz.sizeOf259
 v89 := Tryz.zeroValue259
 i89 := by kernel_rfl }
namespace YtiacgjebngnddaaGreat.Ab
noncomputable def zalt:TypeInfo:=(Tryz.prog.info? 44).get (by kernel_rfl)
noncomputable def sortE:TypeInfo:=(Tryz.prog.info? 83).get (by kernel_rfl)
theorem zatg (n:Nat) (h2:2≤n):Lib.swapperK n sortE 25=9:=by
 have a:sortE.hasPointers=false:=by kernel_rfl
 have b:sortE.bytes=16:=by kernel_rfl
 have c:(n==0)=false:=by simp;omega
 have d:(n==1)=false:=by simp;omega
 simp[Lib.swapperK,a,b,c,d]
def zm0 (p:Power):List Value:=[.int .i64 p.V,.int .i64 p.N]
def ltN (a b:Power):Bool:=decide (a.N > b.N)
def ltV (a b:Power):Bool:=decide (a.V < b.V)
set_option maxHeartbeats 2000000 in
theorem zath (blk off c Bs size:Nat) (W:World) (G:Nat→Int) (hs:W.cell? ⟨Bs,0,none⟩=some (.slice (some ⟨blk,off,none⟩) size c))
  (hc:∀ t,t < size→W.cell? ⟨blk,off+t*2+1,none⟩=some (.int .i64 (G t))) (i j:Nat) (hi:i < size) (hj:j < size) (_hsz:size < 4611686018427387904) :
  Calls Tryz.prog 109 #[.int .i64 i,.int .i64 j,.pointer (some ⟨Bs,0,none⟩)] W fun e w'=>e=.returned (.bool (decide (G i > G j)))∧∃ q,w'=W.drewN q:=by
 have ci:=hc i hi
 have cj:=hc j hj
 go_enter Tryz.func109,Tryz.ntmps109
 go_wp2
 go_quiet (fail)
 go_wp2
 go_ret
 exact ⟨rfl,nq,rfl⟩
set_option maxHeartbeats 2000000 in
theorem zati (blk off c Bs size:Nat) (W:World) (G:Nat→Int) (hs:W.cell? ⟨Bs,0,none⟩=some (.slice (some ⟨blk,off,none⟩) size c))
  (hc:∀ t,t < size→W.cell? ⟨blk,off+t*2,none⟩=some (.int .i64 (G t))) (i j:Nat) (hi:i < size) (hj:j < size) (_hsz:size < 4611686018427387904) :
  Calls Tryz.prog 111 #[.int .i64 i,.int .i64 j,.pointer (some ⟨Bs,0,none⟩)] W fun e w'=>e=.returned (.bool (decide (G i < G j)))∧∃ q,w'=W.drewN q:=by
 have ci:=hc i hi
 have cj:=hc j hj
 go_enter Tryz.func111,Tryz.ntmps111
 go_wp2
 go_quiet (fail)
 go_wp2
 go_ret
 exact ⟨rfl,nq,rfl⟩
theorem zatj (g:Nat) (lt:Power→Power→Bool) (blk Bs c:Nat) (d:Array Power) (w:World) (hs:w.cell? ⟨Bs,0,none⟩=some (.slice (some ⟨blk,0,none⟩) d.size c)) (hH:HoldsK zm0 2 w blk 0 d)
  (hblk:blk < w.heap.size) (hne:Bs≠blk) (hB:Bs < w.heap.size)
  (key:∀ (W:World) (dk:Array Power),dk.size=d.size→W.cell? ⟨Bs,0,none⟩=some (.slice (some ⟨blk,0,none⟩) d.size c)→(∀ t,t < d.size→W.cell? ⟨blk,0+t*2,none⟩=some (.int .i64 dk[t]!.V)∧W.cell? ⟨blk,0+t*2+1,none⟩=some (.int .i64 dk[t]!.N)) →
   ∀ i j:Nat,i < d.size→j < d.size→Calls Tryz.prog g #[.int .i64 i,.int .i64 j,.pointer (some ⟨Bs,0,none⟩)] W fun e w'=>e=.returned (.bool (lt dk[i]! dk[j]!))∧∃ q,w'=W.drewN q) :
  LessReadsK Tryz.prog g #[.pointer (some ⟨Bs,0,none⟩)] zm0 2 lt blk 0 d.size w:=by
 intro m os dk hsz i j hi hj
 have e:sortWorldK zm0 2 w blk 0 m dk os=putRowK zm0 2 (grow (Sort.ahead w m) os) blk 0 dk:=by
  unfold sortWorldK;rw[putRowK_grow _ _ (Sort.ahead w m) _ blk 0 _ hblk]
 have hHg:HoldsK zm0 2 (grow (Sort.ahead w m) os) blk 0 d:=holdsK_grow _ _ _ _ blk 0 d hblk (holdsK_ahead _ _ _ _ _ _ _ hH)
 refine key _ dk hsz ?_ (fun t ht=>?_) i j hi hj
 ·rw[e,cell?_putRowK_other _ _ _ blk 0 dk _ hne,cell?_grow _ _ _ (by exact hB)]
  exact hs
 ·rw[e]
  have h0:=((holdsK_putRowK _ _ _ blk 0 d dk hHg hsz).cell (i:=t) (c:=0) (by omega) (by omega)).1
  have h1:=((holdsK_putRowK _ _ _ blk 0 d dk hHg hsz).cell (i:=t) (c:=1) (by omega) (by omega)).1
  exact ⟨h0,h1⟩
theorem zabh (blk Bs c:Nat) (d:Array Power) (w:World) (hs:w.cell? ⟨Bs,0,none⟩=some (.slice (some ⟨blk,0,none⟩) d.size c)) (hH:HoldsK zm0 2 w blk 0 d) (hblk:blk < w.heap.size) (hne:Bs≠blk) (hB:Bs < w.heap.size)
  (h2:2≤d.size) (h12:d.size≤12) :
  Calls Tryz.prog 108 #[.iface 44 (.slice (some ⟨blk,0,none⟩) d.size c),.func (.func 109) #[] #[.pointer (some ⟨Bs,0,none⟩)]] w fun e w' =>
   e=.returned (.tuple #[])∧∃ n os,w'=grow (putRowK zm0 2 (Sort.ahead w n) blk 0 (Sort.insertionSort ltN d 0 d.size)) os:=by
 have hless:LessReadsK Tryz.prog 109 #[.pointer (some ⟨Bs,0,none⟩)] zm0 2 ltN blk 0 d.size w :=
  zatj _ ltN blk Bs c d w hs hH hblk hne hB fun W dk hsz h1 h2 i j hi hj=>zath blk 0 c Bs d.size W (fun t=>dk[t]!.N) h1 (fun t ht=>(h2 t ht).2) i j hi hj (by omega)
 exact YtiacgjebngnddaaGreat.sort_SliceStable_cells Tryz.sortStable 44 83 zalt sortE (by kernel_rfl) (by kernel_rfl) (by kernel_rfl) (by kernel_rfl) 25 (fun _=>by kernel_rfl) zm0 2 (fun _=>rfl) (by kernel_rfl) (fun _=>by kernel_rfl)
  (fun x v hv=>by simp[zm0] at hv;rcases hv with rfl | rfl<;>rfl) ltN 109 _
  (enters_of Tryz.func109 (by kernel_rfl) rfl) blk 0 c d h2 (by omega) 150 (by rw[zatg _ h2];kernel_rfl) false
  (fun args W=>run_callFunc_extern Tryz.func150 (by kernel_rfl) (by kernel_rfl) (by kernel_rfl) (e:=Extern.ReflectliteSwapper.swap false) (by kernel_rfl) args W) _ hless hH hblk
theorem zafl (blk Bs c:Nat) (d:Array Power) (w:World) (hs:w.cell? ⟨Bs,0,none⟩=some (.slice (some ⟨blk,0,none⟩) d.size c)) (hH:HoldsK zm0 2 w blk 0 d) (hblk:blk < w.heap.size) (hne:Bs≠blk) (hB:Bs < w.heap.size)
  (h2:2≤d.size) (h12:d.size≤12) :
  Calls Tryz.prog 110 #[.iface 44 (.slice (some ⟨blk,0,none⟩) d.size c),.func (.func 111) #[] #[.pointer (some ⟨Bs,0,none⟩)]] w fun e w' =>
   e=.returned (.tuple #[])∧∃ n os,w'=grow (putRowK zm0 2 (Sort.ahead w n) blk 0 (Sort.insertionSort ltV d 0 d.size)) os:=by
 have hless:LessReadsK Tryz.prog 111 #[.pointer (some ⟨Bs,0,none⟩)] zm0 2 ltV blk 0 d.size w :=
  zatj _ ltV blk Bs c d w hs hH hblk hne hB fun W dk hsz h1 h2 i j hi hj=>zati blk 0 c Bs d.size W (fun t=>dk[t]!.V) h1 (fun t ht=>(h2 t ht).1) i j hi hj (by omega)
 exact Any.sort_Slice_small_cells Tryz.sortSlice 44 83 zalt sortE (by kernel_rfl) (by kernel_rfl) (by kernel_rfl) (by kernel_rfl) 25 (fun _=>by kernel_rfl) zm0 2 (fun _=>rfl) (by kernel_rfl) (fun _=>by kernel_rfl)
  (fun x v hv=>by simp[zm0] at hv;rcases hv with rfl | rfl<;>rfl) ltV 111 _
  (enters_of Tryz.func111 (by kernel_rfl) rfl) blk 0 c d h2 h12 150 (by rw[zatg _ h2];kernel_rfl) false
  (fun args W=>run_callFunc_extern Tryz.func150 (by kernel_rfl) (by kernel_rfl) (by kernel_rfl) (e:=Extern.ReflectliteSwapper.swap false) (by kernel_rfl) args W) _ hless hH hblk
end YtiacgjebngnddaaGreat.Ab
end Go.Proofs
