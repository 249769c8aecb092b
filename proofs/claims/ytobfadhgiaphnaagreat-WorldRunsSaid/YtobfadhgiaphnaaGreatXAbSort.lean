/-
  The walk over abstract states.
-/
import Derived.Test.YtobfadhgiaphnaaGreatXAbFun
import Derived.Test.YtobfadhgiaphnaaGreatXAbStable
import Derived.Test.YtobfadhgiaphnaaGreatChecked
import Derived.Deep.QuietTactic
import Derived.Ground.GgsProg
import Derived.Ground.GgtProg
import Derived.Shelf.Abstract
namespace Go.Proofs
open Go.Shelf Go.RowKit Go.Lib Go.Sort
set_option linter.unusedVariables false
set_option linter.unusedSimpArgs false
theorem Tryz.lay {l : Option Go.Func} {a b : Go.Func} (h : l = some a) (e : a = b) : l = some b := h.trans (congrArg some e)
def Tryz.sortSlice_ren : Go.Shelf.Ren := ⟨fun | 6 => 170 | 10 => 192 | 11 => 193 | 12 => 195 | 13 => 196 | 14 => 197 | 24 => 216 | 25 => 202 | 26 => 214 | 27 => 217 | 28 => 218 | 29 => 219 | 30 => 220 | 31 => 221 | 32 => 222 | 33 => 223 | 34 => 226 | 35 => 227 | 36 => 228 | 37 => 229 | 38 => 230 | 39 => 232 | n => n, fun | 20 => 20 | 26 => 205 | 35 => 223 | 0 => 0 | 37 => 225 | 3 => 3 | 41 => 187 | 44 => 229 | 49 => 243 | 51 => 194 | 4 => 4 | 54 => 245 | 53 => 244 | 58 => 201 | 5 => 5 | 9 => 9 | 60 => 251 | 64 => 217 | 66 => 256 | 67 => 257 | 17 => 17 | 32 => 220 | 33 => 221 | 82 => 272 | 12 => 12 | 75 => 265 | 76 => 266 | 77 => 267 | 78 => 268 | 79 => 269 | 80 => 270 | n => n, fun | n => n⟩
theorem Tryz.sortSlice : Go.Proofs.LaysGg.n6 Tryz.prog Tryz.sortSlice_ren := {
 mixed := by kernel_rfl
 f6 := Tryz.lay Tryz.func170 (by kernel_rfl)
 f10 := Tryz.lay Tryz.func192 (by kernel_rfl)
 f11 := Tryz.lay Tryz.func193 (by kernel_rfl)
 f12 := Tryz.lay Tryz.func195 (by kernel_rfl)
 f13 := Tryz.lay Tryz.func196 (by kernel_rfl)
 f14 := Tryz.lay Tryz.func197 (by kernel_rfl)
 f24 := Tryz.lay Tryz.func216 (by kernel_rfl)
 f25 := Tryz.lay Tryz.func202 (by kernel_rfl)
 f26 := Tryz.lay Tryz.func214 (by kernel_rfl)
 f27 := Tryz.lay Tryz.func217 (by kernel_rfl)
 f28 := Tryz.lay Tryz.func218 (by kernel_rfl)
 f29 := Tryz.lay Tryz.func219 (by kernel_rfl)
 f30 := Tryz.lay Tryz.func220 (by kernel_rfl)
 f31 := Tryz.lay Tryz.func221 (by kernel_rfl)
 f32 := Tryz.lay Tryz.func222 (by kernel_rfl)
 f33 := Tryz.lay Tryz.func223 (by kernel_rfl)
 f34 := Tryz.lay Tryz.func226 (by kernel_rfl)
 f35 := Tryz.lay Tryz.func227 (by kernel_rfl)
 f36 := Tryz.lay Tryz.func228 (by kernel_rfl)
 f37 := Tryz.lay Tryz.func229 (by kernel_rfl)
 f38 := Tryz.lay Tryz.func230 (by kernel_rfl)
 f39 := Tryz.lay Tryz.func232 (by kernel_rfl)
 t0 := Tryz.underlying0
 a0 := Tryz.isAgg0
 z0 := Tryz.sizeOf0
 v0 := Tryz.zeroValue0
 i0 := by kernel_rfl
 t3 := Tryz.underlying3
 a3 := Tryz.isAgg3
 z3 := Tryz.sizeOf3
 v3 := Tryz.zeroValue3
 i3 := by kernel_rfl
 t4 := Tryz.underlying4
 a4 := Tryz.isAgg4
 z4 := Tryz.sizeOf4
 v4 := Tryz.zeroValue4
 i4 := by kernel_rfl
 t5 := Tryz.underlying5
 a5 := Tryz.isAgg5
 z5 := Tryz.sizeOf5
 v5 := Tryz.zeroValue5
 i5 := by kernel_rfl
 t9 := Tryz.underlying9
 a9 := Tryz.isAgg9
 z9 := Tryz.sizeOf9
 v9 := Tryz.zeroValue9
 i9 := by kernel_rfl
 t12 := Tryz.underlying12
 a12 := Tryz.isAgg12
 z12 := Tryz.sizeOf12
 v12 := Tryz.zeroValue12
 i12 := by kernel_rfl
 t17 := Tryz.underlying17
 a17 := Tryz.isAgg17
 z17 := Tryz.sizeOf17
 v17 := Tryz.zeroValue17
 i17 := by kernel_rfl
 t20 := Tryz.underlying20
 a20 := Tryz.isAgg20
 z20 := Tryz.sizeOf20
 v20 := Tryz.zeroValue20
 i20 := by kernel_rfl
 t26 := Tryz.underlying205
 a26 := Tryz.isAgg205
 z26 := Tryz.sizeOf205
 v26 := Tryz.zeroValue205
 i26 := by kernel_rfl
 t32 := Tryz.underlying220
 a32 := Tryz.isAgg220
 z32 := Tryz.sizeOf220
 v32 := Tryz.zeroValue220
 i32 := by kernel_rfl
 t33 := Tryz.underlying221
 a33 := Tryz.isAgg221
 z33 := Tryz.sizeOf221
 v33 := Tryz.zeroValue221
 i33 := by kernel_rfl
 t35 := Tryz.underlying223
 a35 := Tryz.isAgg223
 z35 := Tryz.sizeOf223
 v35 := Tryz.zeroValue223
 i35 := by kernel_rfl
 t37 := Tryz.underlying225
 a37 := Tryz.isAgg225
 z37 := Tryz.sizeOf225
 v37 := Tryz.zeroValue225
 i37 := by kernel_rfl
 t41 := Tryz.underlying187
 a41 := Tryz.isAgg187
 z41 := Tryz.sizeOf187
 v41 := Tryz.zeroValue187
 i41 := by kernel_rfl
 t44 := Tryz.underlying229
 a44 := Tryz.isAgg229
 z44 := Tryz.sizeOf229
 v44 := Tryz.zeroValue229
 i44 := by kernel_rfl
 t49 := Tryz.underlying243
 a49 := Tryz.isAgg243
 z49 := Tryz.sizeOf243
 v49 := Tryz.zeroValue243
 i49 := by kernel_rfl
 t51 := Tryz.underlying194
 a51 := Tryz.isAgg194
 z51 := Tryz.sizeOf194
 v51 := Tryz.zeroValue194
 i51 := by kernel_rfl
 t53 := Tryz.underlying244
 a53 := Tryz.isAgg244
 z53 := Tryz.sizeOf244
 v53 := Tryz.zeroValue244
 i53 := by kernel_rfl
 t54 := Tryz.underlying245
 a54 := Tryz.isAgg245
 z54 := Tryz.sizeOf245
 v54 := Tryz.zeroValue245
 i54 := by kernel_rfl
 t58 := Tryz.underlying201
 a58 := Tryz.isAgg201
 z58 := Tryz.sizeOf201
 v58 := Tryz.zeroValue201
 i58 := by kernel_rfl
 t60 := Tryz.underlying251
 a60 := Tryz.isAgg251
 z60 := Tryz.sizeOf251
 v60 := Tryz.zeroValue251
 i60 := by kernel_rfl
 t64 := Tryz.underlying217
 a64 := Tryz.isAgg217
 z64 := Tryz.sizeOf217
 v64 := Tryz.zeroValue217
 i64 := by kernel_rfl
 t66 := Tryz.underlying256
 a66 := Tryz.isAgg256
 z66 := Tryz.sizeOf256
 v66 := Tryz.zeroValue256
 i66 := by kernel_rfl
 t67 := Tryz.underlying257
 a67 := Tryz.isAgg257
 z67 := Tryz.sizeOf257
 v67 := Tryz.zeroValue257
 i67 := by kernel_rfl
 t75 := Tryz.underlying265
 a75 := Tryz.isAgg265
 z75 := Tryz.sizeOf265
 v75 := Tryz.zeroValue265
 i75 := by kernel_rfl
 t76 := Tryz.underlying266
 a76 := Tryz.isAgg266
 z76 := Tryz.sizeOf266
 v76 := Tryz.zeroValue266
 i76 := by kernel_rfl
 t77 := Tryz.underlying267
 a77 := Tryz.isAgg267
 z77 := Tryz.sizeOf267
 v77 := Tryz.zeroValue267
 i77 := by kernel_rfl
 t78 := Tryz.underlying268
 a78 := Tryz.isAgg268
 z78 := Tryz.sizeOf268
 v78 := Tryz.zeroValue268
 i78 := by kernel_rfl
 t79 := Tryz.underlying269
 a79 := Tryz.isAgg269
 z79 := Tryz.sizeOf269
 v79 := Tryz.zeroValue269
 i79 := by kernel_rfl
 t80 := Tryz.underlying270
 a80 := Tryz.isAgg270
 z80 := Tryz.sizeOf270
 v80 := Tryz.zeroValue270
 i80 := by kernel_rfl
 t82 := Tryz.underlying272
 a82 := Tryz.isAgg272
 z82 := Tryz.sizeOf272
 v82 := Tryz.zeroValue272
 i82 := by kernel_rfl }
def Tryz.sortStable_ren : Go.Shelf.Ren := ⟨fun | 8 => 168 | 13 => 192 | 14 => 193 | 16 => 195 | 15 => 194 | 29 => 214 | 30 => 215 | 42 => 225 | 49 => 231 | n => n, fun | 20 => 20 | 26 => 205 | 36 => 223 | 0 => 0 | 38 => 225 | 42 => 229 | 3 => 3 | 4 => 4 | 47 => 187 | 17 => 17 | 33 => 220 | 34 => 221 | 89 => 272 | 12 => 12 | 56 => 243 | 82 => 265 | 5 => 5 | 83 => 266 | 84 => 267 | 85 => 268 | 86 => 269 | 87 => 270 | n => n, fun | n => n⟩
theorem Tryz.sortStable : Go.Proofs.LaysGt.n8 Tryz.prog Tryz.sortStable_ren := {
 mixed := by kernel_rfl
 f8 := Tryz.lay Tryz.func168 (by kernel_rfl)
 f13 := Tryz.lay Tryz.func192 (by kernel_rfl)
 f14 := Tryz.lay Tryz.func193 (by kernel_rfl)
 f15 := Tryz.lay Tryz.func194 (by kernel_rfl)
 f16 := Tryz.lay Tryz.func195 (by kernel_rfl)
 f29 := Tryz.lay Tryz.func214 (by kernel_rfl)
 f30 := Tryz.lay Tryz.func215 (by kernel_rfl)
 f42 := Tryz.lay Tryz.func225 (by kernel_rfl)
 f49 := Tryz.lay Tryz.func231 (by kernel_rfl)
 t0 := Tryz.underlying0
 a0 := Tryz.isAgg0
 z0 := Tryz.sizeOf0
 v0 := Tryz.zeroValue0
 i0 := by kernel_rfl
 t3 := Tryz.underlying3
 a3 := Tryz.isAgg3
 z3 := Tryz.sizeOf3
 v3 := Tryz.zeroValue3
 i3 := by kernel_rfl
 t4 := Tryz.underlying4
 a4 := Tryz.isAgg4
 z4 := Tryz.sizeOf4
 v4 := Tryz.zeroValue4
 i4 := by kernel_rfl
 t5 := Tryz.underlying5
 a5 := Tryz.isAgg5
 z5 := Tryz.sizeOf5
 v5 := Tryz.zeroValue5
 i5 := by kernel_rfl
 t12 := Tryz.underlying12
 a12 := Tryz.isAgg12
 z12 := Tryz.sizeOf12
 v12 := Tryz.zeroValue12
 i12 := by kernel_rfl
 t17 := Tryz.underlying17
 a17 := Tryz.isAgg17
 z17 := Tryz.sizeOf17
 v17 := Tryz.zeroValue17
 i17 := by kernel_rfl
 t20 := Tryz.underlying20
 a20 := Tryz.isAgg20
 z20 := Tryz.sizeOf20
 v20 := Tryz.zeroValue20
 i20 := by kernel_rfl
 t26 := Tryz.underlying205
 a26 := Tryz.isAgg205
 z26 := Tryz.sizeOf205
 v26 := Tryz.zeroValue205
 i26 := by kernel_rfl
 t33 := Tryz.underlying220
 a33 := Tryz.isAgg220
 z33 := Tryz.sizeOf220
 v33 := Tryz.zeroValue220
 i33 := by kernel_rfl
 t34 := Tryz.underlying221
 a34 := Tryz.isAgg221
 z34 := Tryz.sizeOf221
 v34 := Tryz.zeroValue221
 i34 := by kernel_rfl
 t36 := Tryz.underlying223
 a36 := Tryz.isAgg223
 z36 := Tryz.sizeOf223
 v36 := Tryz.zeroValue223
 i36 := by kernel_rfl
 t38 := Tryz.underlying225
 a38 := Tryz.isAgg225
 z38 := Tryz.sizeOf225
 v38 := Tryz.zeroValue225
 i38 := by kernel_rfl
 t42 := Tryz.underlying229
 a42 := Tryz.isAgg229
 z42 := Tryz.sizeOf229
 v42 := Tryz.zeroValue229
 i42 := by kernel_rfl
 t47 := Tryz.underlying187
 a47 := Tryz.isAgg187
 z47 := Tryz.sizeOf187
 v47 := Tryz.zeroValue187
 i47 := by kernel_rfl
 t56 := Tryz.underlying243
 a56 := Tryz.isAgg243
 z56 := Tryz.sizeOf243
 v56 := Tryz.zeroValue243
 i56 := by kernel_rfl
 t82 := Tryz.underlying265
 a82 := Tryz.isAgg265
 z82 := Tryz.sizeOf265
 v82 := Tryz.zeroValue265
 i82 := by kernel_rfl
 t83 := Tryz.underlying266
 a83 := Tryz.isAgg266
 z83 := Tryz.sizeOf266
 v83 := Tryz.zeroValue266
 i83 := by kernel_rfl
 t84 := Tryz.underlying267
 a84 := Tryz.isAgg267
 z84 := Tryz.sizeOf267
 v84 := Tryz.zeroValue267
 i84 := by kernel_rfl
 t85 := Tryz.underlying268
 a85 := Tryz.isAgg268
 z85 := Tryz.sizeOf268
 v85 := Tryz.zeroValue268
 i85 := by kernel_rfl
 t86 := Tryz.underlying269
 a86 := Tryz.isAgg269
 z86 := Tryz.sizeOf269
 v86 := Tryz.zeroValue269
 i86 := by kernel_rfl
 t87 := Tryz.underlying270
 a87 := Tryz.isAgg270
 z87 := Tryz.sizeOf270
 v87 := Tryz.zeroValue270
 i87 := by kernel_rfl
 t89 := Tryz.underlying272
 a89 := Tryz.isAgg272
 z89 := Tryz.sizeOf272
 v89 := Tryz.zeroValue272
 i89 := by kernel_rfl }
namespace YtobfadhgiaphnaaGreat.Ab
noncomputable def zat5:TypeInfo:=(Tryz.prog.info? 49).get (by kernel_rfl)
noncomputable def sortE:TypeInfo:=(Tryz.prog.info? 154).get (by kernel_rfl)
theorem za48 (n:Nat) (h2:2≤n):Lib.swapperK n sortE 25=9:=by
 have a:sortE.hasPointers=false:=by kernel_rfl
 have b:sortE.bytes=16:=by kernel_rfl
 have c:(n==0)=false:=by simp;omega
 have d:(n==1)=false:=by simp;omega
 simp[Lib.swapperK,a,b,c,d]
def zrj (p:Power):List Value:=[.int .i64 p.V,.int .i64 p.N]
def ltN (a b:Power):Bool:=decide (a.N > b.N)
def ltV (a b:Power):Bool:=decide (a.V < b.V)
set_option maxHeartbeats 2000000 in
theorem za49 (blk off c Bs size:Nat) (W:World) (G:Nat→Int) (hs:W.cell? ⟨Bs,0,none⟩=some (.slice (some ⟨blk,off,none⟩) size c))
  (hc:∀ t,t < size→W.cell? ⟨blk,off+t*2+1,none⟩=some (.int .i64 (G t))) (i j:Nat) (hi:i < size) (hj:j < size) (_hsz:size < 4611686018427387904) :
  Calls Tryz.prog 169 #[.int .i64 i,.int .i64 j,.pointer (some ⟨Bs,0,none⟩)] W fun e w'=>e=.returned (.bool (decide (G i > G j)))∧∃ q,w'=W.drewN q:=by
 have ci:=hc i hi
 have cj:=hc j hj
 go_enter Tryz.func169,Tryz.ntmps169
 go_wp2
 go_quiet (fail)
 go_wp2
 go_ret
 exact ⟨rfl,nq,rfl⟩
set_option maxHeartbeats 2000000 in
theorem za5a (blk off c Bs size:Nat) (W:World) (G:Nat→Int) (hs:W.cell? ⟨Bs,0,none⟩=some (.slice (some ⟨blk,off,none⟩) size c))
  (hc:∀ t,t < size→W.cell? ⟨blk,off+t*2,none⟩=some (.int .i64 (G t))) (i j:Nat) (hi:i < size) (hj:j < size) (_hsz:size < 4611686018427387904) :
  Calls Tryz.prog 171 #[.int .i64 i,.int .i64 j,.pointer (some ⟨Bs,0,none⟩)] W fun e w'=>e=.returned (.bool (decide (G i < G j)))∧∃ q,w'=W.drewN q:=by
 have ci:=hc i hi
 have cj:=hc j hj
 go_enter Tryz.func171,Tryz.ntmps171
 go_wp2
 go_quiet (fail)
 go_wp2
 go_ret
 exact ⟨rfl,nq,rfl⟩
theorem za5b (g:Nat) (lt:Power→Power→Bool) (blk Bs c:Nat) (d:Array Power) (w:World) (hs:w.cell? ⟨Bs,0,none⟩=some (.slice (some ⟨blk,0,none⟩) d.size c)) (hH:HoldsK zrj 2 w blk 0 d)
  (hblk:blk < w.heap.size) (hne:Bs≠blk) (hB:Bs < w.heap.size)
  (key:∀ (W:World) (dk:Array Power),dk.size=d.size→W.cell? ⟨Bs,0,none⟩=some (.slice (some ⟨blk,0,none⟩) d.size c)→(∀ t,t < d.size→W.cell? ⟨blk,0+t*2,none⟩=some (.int .i64 dk[t]!.V)∧W.cell? ⟨blk,0+t*2+1,none⟩=some (.int .i64 dk[t]!.N)) →
   ∀ i j:Nat,i < d.size→j < d.size→Calls Tryz.prog g #[.int .i64 i,.int .i64 j,.pointer (some ⟨Bs,0,none⟩)] W fun e w'=>e=.returned (.bool (lt dk[i]! dk[j]!))∧∃ q,w'=W.drewN q) :
  LessReadsK Tryz.prog g #[.pointer (some ⟨Bs,0,none⟩)] zrj 2 lt blk 0 d.size w:=by
 intro m os dk hsz i j hi hj
 have e:sortWorldK zrj 2 w blk 0 m dk os=putRowK zrj 2 (grow (Sort.ahead w m) os) blk 0 dk:=by
  unfold sortWorldK;rw[putRowK_grow _ _ (Sort.ahead w m) _ blk 0 _ hblk]
 have hHg:HoldsK zrj 2 (grow (Sort.ahead w m) os) blk 0 d:=holdsK_grow _ _ _ _ blk 0 d hblk (holdsK_ahead _ _ _ _ _ _ _ hH)
 refine key _ dk hsz ?_ (fun t ht=>?_) i j hi hj
 ·rw[e,cell?_putRowK_other _ _ _ blk 0 dk _ hne,cell?_grow _ _ _ (by exact hB)]
  exact hs
 ·rw[e]
  have h0:=((holdsK_putRowK _ _ _ blk 0 d dk hHg hsz).cell (i:=t) (c:=0) (by omega) (by omega)).1
  have h1:=((holdsK_putRowK _ _ _ blk 0 d dk hHg hsz).cell (i:=t) (c:=1) (by omega) (by omega)).1
  exact ⟨h0,h1⟩
theorem zakj (blk Bs c:Nat) (d:Array Power) (w:World) (hs:w.cell? ⟨Bs,0,none⟩=some (.slice (some ⟨blk,0,none⟩) d.size c)) (hH:HoldsK zrj 2 w blk 0 d) (hblk:blk < w.heap.size) (hne:Bs≠blk) (hB:Bs < w.heap.size)
  (h2:2≤d.size) (h12:d.size≤12) :
  Calls Tryz.prog 168 #[.iface 49 (.slice (some ⟨blk,0,none⟩) d.size c),.func (.func 169) #[] #[.pointer (some ⟨Bs,0,none⟩)]] w fun e w' =>
   e=.returned (.tuple #[])∧∃ n os,w'=grow (putRowK zrj 2 (Sort.ahead w n) blk 0 (Sort.insertionSort ltN d 0 d.size)) os:=by
 have hless:LessReadsK Tryz.prog 169 #[.pointer (some ⟨Bs,0,none⟩)] zrj 2 ltN blk 0 d.size w :=
  za5b _ ltN blk Bs c d w hs hH hblk hne hB fun W dk hsz h1 h2 i j hi hj=>za49 blk 0 c Bs d.size W (fun t=>dk[t]!.N) h1 (fun t ht=>(h2 t ht).2) i j hi hj (by omega)
 exact YtobfadhgiaphnaaGreat.sort_SliceStable_cells Tryz.sortStable 49 154 zat5 sortE (by kernel_rfl) (by kernel_rfl) (by kernel_rfl) (by kernel_rfl) 25 (fun _=>by kernel_rfl) zrj 2 (fun _=>rfl) (by kernel_rfl) (fun _=>by kernel_rfl)
  (fun x v hv=>by simp[zrj] at hv;rcases hv with rfl | rfl<;>rfl) ltN 169 _
  (enters_of Tryz.func169 (by kernel_rfl) rfl) blk 0 c d h2 (by omega) 213 (by rw[za48 _ h2];kernel_rfl) false
  (fun args W=>run_callFunc_extern Tryz.func213 (by kernel_rfl) (by kernel_rfl) (by kernel_rfl) (e:=Extern.ReflectliteSwapper.swap false) (by kernel_rfl) args W) _ hless hH hblk
theorem zan4 (blk Bs c:Nat) (d:Array Power) (w:World) (hs:w.cell? ⟨Bs,0,none⟩=some (.slice (some ⟨blk,0,none⟩) d.size c)) (hH:HoldsK zrj 2 w blk 0 d) (hblk:blk < w.heap.size) (hne:Bs≠blk) (hB:Bs < w.heap.size)
  (h2:2≤d.size) (h12:d.size≤12) :
  Calls Tryz.prog 170 #[.iface 49 (.slice (some ⟨blk,0,none⟩) d.size c),.func (.func 171) #[] #[.pointer (some ⟨Bs,0,none⟩)]] w fun e w' =>
   e=.returned (.tuple #[])∧∃ n os,w'=grow (putRowK zrj 2 (Sort.ahead w n) blk 0 (Sort.insertionSort ltV d 0 d.size)) os:=by
 have hless:LessReadsK Tryz.prog 171 #[.pointer (some ⟨Bs,0,none⟩)] zrj 2 ltV blk 0 d.size w :=
  za5b _ ltV blk Bs c d w hs hH hblk hne hB fun W dk hsz h1 h2 i j hi hj=>za5a blk 0 c Bs d.size W (fun t=>dk[t]!.V) h1 (fun t ht=>(h2 t ht).1) i j hi hj (by omega)
 exact Any.sort_Slice_small_cells Tryz.sortSlice 49 154 zat5 sortE (by kernel_rfl) (by kernel_rfl) (by kernel_rfl) (by kernel_rfl) 25 (fun _=>by kernel_rfl) zrj 2 (fun _=>rfl) (by kernel_rfl) (fun _=>by kernel_rfl)
  (fun x v hv=>by simp[zrj] at hv;rcases hv with rfl | rfl<;>rfl) ltV 171 _
  (enters_of Tryz.func171 (by kernel_rfl) rfl) blk 0 c d h2 h12 213 (by rw[za48 _ h2];kernel_rfl) false
  (fun args W=>run_callFunc_extern Tryz.func213 (by kernel_rfl) (by kernel_rfl) (by kernel_rfl) (e:=Extern.ReflectliteSwapper.swap false) (by kernel_rfl) args W) _ hless hH hblk
end YtobfadhgiaphnaaGreat.Ab
end Go.Proofs
