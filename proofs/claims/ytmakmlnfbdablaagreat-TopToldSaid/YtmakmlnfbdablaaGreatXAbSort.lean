/-
  The walk over abstract states.
-/
import Derived.Test.YtmakmlnfbdablaaGreatXAbFun
import Derived.Test.YtmakmlnfbdablaaGreatXAbStable
import Derived.Test.YtmakmlnfbdablaaGreatChecked
import Derived.Deep.QuietTactic
import Derived.Ground.GgsProg
import Derived.Ground.GgtProg
import Derived.Shelf.Abstract
namespace Go.Proofs
open Go.Shelf Go.RowKit Go.Lib Go.Sort
set_option linter.unusedVariables false
set_option linter.unusedSimpArgs false
theorem Tryz.lay {l : Option Go.Func} {a b : Go.Func} (h : l = some a) (e : a = b) : l = some b := h.trans (congrArg some e)
def Tryz.sortSlice_ren : Go.Shelf.Ren := ⟨fun | 6 => 130 | 10 => 144 | 11 => 145 | 12 => 147 | 13 => 148 | 14 => 149 | 24 => 165 | 25 => 151 | 26 => 163 | 27 => 166 | 28 => 167 | 29 => 168 | 30 => 169 | 31 => 170 | 32 => 171 | 33 => 172 | 34 => 175 | 35 => 176 | 36 => 177 | 37 => 178 | 38 => 179 | 39 => 181 | n => n, fun | 20 => 20 | 26 => 201 | 35 => 216 | 0 => 0 | 37 => 218 | 3 => 3 | 41 => 143 | 44 => 222 | 49 => 231 | 51 => 187 | 4 => 4 | 54 => 233 | 53 => 232 | 58 => 197 | 5 => 5 | 9 => 9 | 60 => 239 | 64 => 209 | 66 => 244 | 67 => 245 | 17 => 17 | 32 => 213 | 33 => 214 | 82 => 260 | 12 => 12 | 75 => 253 | 76 => 254 | 77 => 255 | 78 => 256 | 79 => 257 | 80 => 258 | n => n, fun | n => n⟩
theorem Tryz.sortSlice : Go.Proofs.LaysGg.n6 Tryz.prog Tryz.sortSlice_ren := {
 mixed := by kernel_rfl
 f6 := Tryz.lay Tryz.func130 (by kernel_rfl)
 f10 := Tryz.lay Tryz.func144 (by kernel_rfl)
 f11 := Tryz.lay Tryz.func145 (by kernel_rfl)
 f12 := Tryz.lay Tryz.func147 (by kernel_rfl)
 f13 := Tryz.lay Tryz.func148 (by kernel_rfl)
 f14 := Tryz.lay Tryz.func149 (by kernel_rfl)
 f24 := Tryz.lay Tryz.func165 (by kernel_rfl)
 f25 := Tryz.lay Tryz.func151 (by kernel_rfl)
 f26 := Tryz.lay Tryz.func163 (by kernel_rfl)
 f27 := Tryz.lay Tryz.func166 (by kernel_rfl)
 f28 := Tryz.lay Tryz.func167 (by kernel_rfl)
 f29 := Tryz.lay Tryz.func168 (by kernel_rfl)
 f30 := Tryz.lay Tryz.func169 (by kernel_rfl)
 f31 := Tryz.lay Tryz.func170 (by kernel_rfl)
 f32 := Tryz.lay Tryz.func171 (by kernel_rfl)
 f33 := Tryz.lay Tryz.func172 (by kernel_rfl)
 f34 := Tryz.lay Tryz.func175 (by kernel_rfl)
 f35 := Tryz.lay Tryz.func176 (by kernel_rfl)
 f36 := Tryz.lay Tryz.func177 (by kernel_rfl)
 f37 := Tryz.lay Tryz.func178 (by kernel_rfl)
 f38 := Tryz.lay Tryz.func179 (by kernel_rfl)
 f39 := Tryz.lay Tryz.func181 (by kernel_rfl)
 t0 := Tryz.underlying0
 a0 := Tryz.isAgg0
 z0 := Tryz.sizeOf0
 v0 := Tryz.zeroValue0
 i0 := by kernel_rfl
 t3 := Tryz.underlying3
 a3 := Tryz.isAgg3
 z3 := Tryz.sizeOf3
 v3 := Tryz.zeroValue3
 i3 := by kernel_rfl
 t4 := Tryz.underlying4
 a4 := Tryz.isAgg4
 z4 := Tryz.sizeOf4
 v4 := Tryz.zeroValue4
 i4 := by kernel_rfl
 t5 := Tryz.underlying5
 a5 := Tryz.isAgg5
 z5 := Tryz.sizeOf5
 v5 := Tryz.zeroValue5
 i5 := by kernel_rfl
 t9 := Tryz.underlying9
 a9 := Tryz.isAgg9
 z9 := Tryz.sizeOf9
 v9 := Tryz.zeroValue9
 i9 := by kernel_rfl
 t12 := Tryz.underlying12
 a12 := Tryz.isAgg12
 z12 := Tryz.sizeOf12
 v12 := Tryz.zeroValue12
 i12 := by kernel_rfl
 t17 := Tryz.underlying17
 a17 := Tryz.isAgg17
 z17 := Tryz.sizeOf17
 v17 := Tryz.zeroValue17
 i17 := by kernel_rfl
 t20 := Tryz.underlying20
 a20 := Tryz.isAgg20
 z20 := Tryz.sizeOf20
 v20 := Tryz.zeroValue20
 i20 := by kernel_rfl
 t26 := Tryz.underlying201
 a26 := Tryz.isAgg201
 z26 := Tryz.sizeOf201
 v26 := Tryz.zeroValue201
 i26 := by kernel_rfl
 t32 := Tryz.underlying213
 a32 := Tryz.isAgg213
 z32 := Tryz.sizeOf213
 v32 := Tryz.zeroValue213
 i32 := by kernel_rfl
 t33 := Tryz.underlying214
 a33 := Tryz.isAgg214
 z33 := Tryz.sizeOf214
 v33 := Tryz.zeroValue214
 i33 := by kernel_rfl
 t35 := Tryz.underlying216
 a35 := Tryz.isAgg216
 z35 := Tryz.sizeOf216
 v35 := Tryz.zeroValue216
 i35 := by kernel_rfl
 t37 := Tryz.underlying218
 a37 := Tryz.isAgg218
 z37 := Tryz.sizeOf218
 v37 := Tryz.zeroValue218
 i37 := by kernel_rfl
 t41 := Tryz.underlying143
 a41 := Tryz.isAgg143
 z41 := Tryz.sizeOf143
 v41 := Tryz.zeroValue143
 i41 := by kernel_rfl
 t44 := Tryz.underlying222
 a44 := Tryz.isAgg222
 z44 := Tryz.sizeOf222
 v44 := Tryz.zeroValue222
 i44 := by kernel_rfl
 t49 := Tryz.underlying231
 a49 := Tryz.isAgg231
 z49 := Tryz.sizeOf231
 v49 := Tryz.zeroValue231
 i49 := by kernel_rfl
 t51 := Tryz.underlying187
 a51 := Tryz.isAgg187
 z51 := Tryz.sizeOf187
 v51 := Tryz.zeroValue187
 i51 := by kernel_rfl
 t53 := Tryz.underlying232
 a53 := Tryz.isAgg232
 z53 := Tryz.sizeOf232
 v53 := Tryz.zeroValue232
 i53 := by kernel_rfl
 t54 := Tryz.underlying233
 a54 := Tryz.isAgg233
 z54 := Tryz.sizeOf233
 v54 := Tryz.zeroValue233
 i54 := by kernel_rfl
 t58 := Tryz.underlying197
 a58 := Tryz.isAgg197
 z58 := Tryz.sizeOf197
 v58 := Tryz.zeroValue197
 i58 := by kernel_rfl
 t60 := Tryz.underlying239
 a60 := Tryz.isAgg239
 z60 := Tryz.sizeOf239
 v60 := Tryz.zeroValue239
 i60 := by kernel_rfl
 t64 := Tryz.underlying209
 a64 := Tryz.isAgg209
 z64 := Tryz.sizeOf209
 v64 := Tryz.zeroValue209
 i64 := by kernel_rfl
 t66 := Tryz.underlying244
 a66 := Tryz.isAgg244
 z66 := Tryz.sizeOf244
 v66 := Tryz.zeroValue244
 i66 := by kernel_rfl
 t67 := Tryz.underlying245
 a67 := Tryz.isAgg245
 z67 := Tryz.sizeOf245
 v67 := Tryz.zeroValue245
 i67 := by kernel_rfl
 t75 := Tryz.underlying253
 a75 := Tryz.isAgg253
 z75 := Tryz.sizeOf253
 v75 := Tryz.zeroValue253
 i75 := by kernel_rfl
 t76 := Tryz.underlying254
 a76 := Tryz.isAgg254
 z76 := Tryz.sizeOf254
 v76 := Tryz.zeroValue254
 i76 := by kernel_rfl
 t77 := Tryz.underlying255
 a77 := Tryz.isAgg255
 z77 := Tryz.sizeOf255
 v77 := Tryz.zeroValue255
 i77 := by kernel_rfl
 t78 := Tryz.underlying256
 a78 := Tryz.isAgg256
 z78 := Tryz.sizeOf256
 v78 := Tryz.zeroValue256
 i78 := by kernel_rfl
 t79 := Tryz.underlying257
 a79 := Tryz.isAgg257
 z79 := Tryz.sizeOf257
 v79 := Tryz.zeroValue257
 i79 := by kernel_rfl
 t80 := Tryz.underlying258
 a80 := Tryz.isAgg258
 z80 := Tryz.sizeOf258
 v80 := Tryz.zeroValue258
 i80 := by kernel_rfl
 t82 := Tryz.underlying260
 a82 := Tryz.isAgg260
 z82 := Tryz.sizeOf260
 v82 := Tryz.zeroValue260
 i82 := by kernel_rfl }
def Tryz.sortStable_ren : Go.Shelf.Ren := ⟨fun | 8 => 128 | 13 => 144 | 14 => 145 | 16 => 147 | 15 => 146 | 29 => 163 | 30 => 164 | 42 => 174 | 49 => 180 | n => n, fun | 20 => 20 | 26 => 201 | 36 => 216 | 0 => 0 | 38 => 218 | 42 => 222 | 3 => 3 | 4 => 4 | 47 => 143 | 17 => 17 | 33 => 213 | 34 => 214 | 89 => 260 | 12 => 12 | 56 => 231 | 82 => 253 | 5 => 5 | 83 => 254 | 84 => 255 | 85 => 256 | 86 => 257 | 87 => 258 | n => n, fun | n => n⟩
theorem Tryz.sortStable : Go.Proofs.LaysGt.n8 Tryz.prog Tryz.sortStable_ren := {
 mixed := by kernel_rfl
 f8 := Tryz.lay Tryz.func128 (by kernel_rfl)
 f13 := Tryz.lay Tryz.func144 (by kernel_rfl)
 f14 := Tryz.lay Tryz.func145 (by kernel_rfl)
 f15 := Tryz.lay Tryz.func146 (by kernel_rfl)
 f16 := Tryz.lay Tryz.func147 (by kernel_rfl)
 f29 := Tryz.lay Tryz.func163 (by kernel_rfl)
 f30 := Tryz.lay Tryz.func164 (by kernel_rfl)
 f42 := Tryz.lay Tryz.func174 (by kernel_rfl)
 f49 := Tryz.lay Tryz.func180 (by kernel_rfl)
 t0 := Tryz.underlying0
 a0 := Tryz.isAgg0
 z0 := Tryz.sizeOf0
 v0 := Tryz.zeroValue0
 i0 := by kernel_rfl
 t3 := Tryz.underlying3
 a3 := Tryz.isAgg3
 z3 := Tryz.sizeOf3
 v3 := Tryz.zeroValue3
 i3 := by kernel_rfl
 t4 := Tryz.underlying4
 a4 := Tryz.isAgg4
 z4 := Tryz.sizeOf4
 v4 := Tryz.zeroValue4
 i4 := by kernel_rfl
 t5 := Tryz.underlying5
 a5 := Tryz.isAgg5
 z5 := Tryz.sizeOf5
 v5 := Tryz.zeroValue5
 i5 := by kernel_rfl
 t12 := Tryz.underlying12
 a12 := Tryz.isAgg12
 z12 := Tryz.sizeOf12
 v12 := Tryz.zeroValue12
 i12 := by kernel_rfl
 t17 := Tryz.underlying17
 a17 := Tryz.isAgg17
 z17 := Tryz.sizeOf17
 v17 := Tryz.zeroValue17
 i17 := by kernel_rfl
 t20 := Tryz.underlying20
 a20 := Tryz.isAgg20
 z20 := Tryz.sizeOf20
 v20 := Tryz.zeroValue20
 i20 := by kernel_rfl
 t26 := Tryz.underlying201
 a26 := Tryz.isAgg201
 z26 := Tryz.sizeOf201
 v26 := Tryz.zeroValue201
 i26 := by kernel_rfl
 t33 := Tryz.underlying213
 a33 := Tryz.isAgg213
 z33 := Tryz.sizeOf213
 v33 := Tryz.zeroValue213
 i33 := by kernel_rfl
 t34 := Tryz.underlying214
 a34 := Tryz.isAgg214
 z34 := Tryz.sizeOf214
 v34 := Tryz.zeroValue214
 i34 := by kernel_rfl
 t36 := Tryz.underlying216
 a36 := Tryz.isAgg216
 z36 := Tryz.sizeOf216
 v36 := Tryz.zeroValue216
 i36 := by kernel_rfl
 t38 := Tryz.underlying218
 a38 := Tryz.isAgg218
 z38 := Tryz.sizeOf218
 v38 := Tryz.zeroValue218
 i38 := by kernel_rfl
 t42 := Tryz.underlying222
 a42 := Tryz.isAgg222
 z42 := Tryz.sizeOf222
 v42 := Tryz.zeroValue222
 i42 := by kernel_rfl
 t47 := Tryz.underlying143
 a47 := Tryz.isAgg143
 z47 := Tryz.sizeOf143
 v47 := Tryz.zeroValue143
 i47 := by kernel_rfl
 t56 := Tryz.underlying231
 a56 := Tryz.isAgg231
 z56 := Tryz.sizeOf231
 v56 := Tryz.zeroValue231
 i56 := by kernel_rfl
 t82 := Tryz.underlying253
 a82 := Tryz.isAgg253
 z82 := Tryz.sizeOf253
 v82 := Tryz.zeroValue253
 i82 := by kernel_rfl
 t83 := Tryz.underlying254
 a83 := Tryz.isAgg254
 z83 := Tryz.sizeOf254
 v83 := Tryz.zeroValue254
 i83 := by kernel_rfl
 t84 := Tryz.underlying255
 a84 := Tryz.isAgg255
 z84 := Tryz.sizeOf255
 v84 := Tryz.zeroValue255
 i84 := by kernel_rfl
 t85 := Tryz.underlying256
 a85 := Tryz.isAgg256
 z85 := Tryz.sizeOf256
 v85 := Tryz.zeroValue256
 i85 := by kernel_rfl
 t86 := Tryz.underlying257
 a86 := Tryz.isAgg257
 z86 := Tryz.sizeOf257
 v86 := Tryz.zeroValue257
 i86 := by kernel_rfl
 t87 := Tryz.underlying258
 a87 := Tryz.isAgg258
 z87 := Tryz.sizeOf258
 v87 := Tryz.zeroValue258
 i87 := by kernel_rfl
 t89 := Tryz.underlying260
 a89 := Tryz.isAgg260
 z89 := Tryz.sizeOf260
 v89 := Tryz.zeroValue260
 i89 := by kernel_rfl }
namespace YtmakmlnfbdablaaGreat.Ab
noncomputable def zanc : TypeInfo := (Tryz.prog.info? 47).get (by kernel_rfl)
noncomputable def sortE : TypeInfo := (Tryz.prog.info? 83).get (by kernel_rfl)
theorem zaux (n : Nat) (h2 : 2 ≤ n) : Lib.swapperK n sortE 25 = 9 := by
  have a : sortE.hasPointers = false := by kernel_rfl
  have b : sortE.bytes = 16 := by kernel_rfl
  have c : (n == 0) = false := by simp; omega
  have d : (n == 1) = false := by simp; omega
  simp [Lib.swapperK, a, b, c, d]
def zoo (p : Power) : List Value := [.int .i64 p.V, .int .i64 p.N]
def ltN (a b : Power) : Bool := decide (a.N > b.N)
def ltV (a b : Power) : Bool := decide (a.V < b.V)
set_option maxHeartbeats 2000000 in
theorem zauy (blk off c Bs size : Nat) (W : World) (G : Nat → Int) (hs : W.cell? ⟨Bs, 0, none⟩ = some (.slice (some ⟨blk, off, none⟩) size c))
    (hc : ∀ t, t < size → W.cell? ⟨blk, off + t * 2 + 1, none⟩ = some (.int .i64 (G t))) (i j : Nat) (hi : i < size) (hj : j < size) (_hsz : size < 4611686018427387904) :
    Calls Tryz.prog 129 #[.int .i64 i, .int .i64 j, .pointer (some ⟨Bs, 0, none⟩)] W fun e w' => e = .returned (.bool (decide (G i > G j))) ∧ ∃ q, w' = W.drewN q := by
  have ci := hc i hi
  have cj := hc j hj
  go_enter Tryz.func129, Tryz.ntmps129
  go_wp2
  go_quiet (fail)
  go_wp2
  go_ret
  exact ⟨rfl, nq, rfl⟩
set_option maxHeartbeats 2000000 in
theorem zauz (blk off c Bs size : Nat) (W : World) (G : Nat → Int) (hs : W.cell? ⟨Bs, 0, none⟩ = some (.slice (some ⟨blk, off, none⟩) size c))
    (hc : ∀ t, t < size → W.cell? ⟨blk, off + t * 2, none⟩ = some (.int .i64 (G t))) (i j : Nat) (hi : i < size) (hj : j < size) (_hsz : size < 4611686018427387904) :
    Calls Tryz.prog 131 #[.int .i64 i, .int .i64 j, .pointer (some ⟨Bs, 0, none⟩)] W fun e w' => e = .returned (.bool (decide (G i < G j))) ∧ ∃ q, w' = W.drewN q := by
  have ci := hc i hi
  have cj := hc j hj
  go_enter Tryz.func131, Tryz.ntmps131
  go_wp2
  go_quiet (fail)
  go_wp2
  go_ret
  exact ⟨rfl, nq, rfl⟩
theorem zau0 (g : Nat) (lt : Power → Power → Bool) (blk Bs c : Nat) (d : Array Power) (w : World) (hs : w.cell? ⟨Bs, 0, none⟩ = some (.slice (some ⟨blk, 0, none⟩) d.size c)) (hH : HoldsK zoo 2 w blk 0 d)
    (hblk : blk < w.heap.size) (hne : Bs ≠ blk) (hB : Bs < w.heap.size)
    (key : ∀ (W : World) (dk : Array Power), dk.size = d.size → W.cell? ⟨Bs, 0, none⟩ = some (.slice (some ⟨blk, 0, none⟩) d.size c) → (∀ t, t < d.size → W.cell? ⟨blk, 0 + t * 2, none⟩ = some (.int .i64 dk[t]!.V) ∧ W.cell? ⟨blk, 0 + t * 2 + 1, none⟩ = some (.int .i64 dk[t]!.N)) →
      ∀ i j : Nat, i < d.size → j < d.size → Calls Tryz.prog g #[.int .i64 i, .int .i64 j, .pointer (some ⟨Bs, 0, none⟩)] W fun e w' => e = .returned (.bool (lt dk[i]! dk[j]!)) ∧ ∃ q, w' = W.drewN q) :
    LessReadsK Tryz.prog g #[.pointer (some ⟨Bs, 0, none⟩)] zoo 2 lt blk 0 d.size w := by
  intro m os dk hsz i j hi hj
  have e : sortWorldK zoo 2 w blk 0 m dk os = putRowK zoo 2 (grow (Sort.ahead w m) os) blk 0 dk := by
    unfold sortWorldK; rw [putRowK_grow _ _ (Sort.ahead w m) _ blk 0 _ hblk]
  have hHg : HoldsK zoo 2 (grow (Sort.ahead w m) os) blk 0 d := holdsK_grow _ _ _ _ blk 0 d hblk (holdsK_ahead _ _ _ _ _ _ _ hH)
  refine key _ dk hsz ?_ (fun t ht => ?_) i j hi hj
  · rw [e, cell?_putRowK_other _ _ _ blk 0 dk _ hne, cell?_grow _ _ _ (by exact hB)]
    exact hs
  · rw [e]
    have h0 := ((holdsK_putRowK _ _ _ blk 0 d dk hHg hsz).cell (i := t) (c := 0) (by omega) (by omega)).1
    have h1 := ((holdsK_putRowK _ _ _ blk 0 d dk hHg hsz).cell (i := t) (c := 1) (by omega) (by omega)).1
    exact ⟨h0, h1⟩
theorem zadu (blk Bs c : Nat) (d : Array Power) (w : World) (hs : w.cell? ⟨Bs, 0, none⟩ = some (.slice (some ⟨blk, 0, none⟩) d.size c)) (hH : HoldsK zoo 2 w blk 0 d) (hblk : blk < w.heap.size) (hne : Bs ≠ blk) (hB : Bs < w.heap.size)
    (h2 : 2 ≤ d.size) (h12 : d.size ≤ 12) :
    Calls Tryz.prog 128 #[.iface 47 (.slice (some ⟨blk, 0, none⟩) d.size c), .func (.func 129) #[] #[.pointer (some ⟨Bs, 0, none⟩)]] w fun e w' =>
      e = .returned (.tuple #[]) ∧ ∃ n os, w' = grow (putRowK zoo 2 (Sort.ahead w n) blk 0 (Sort.insertionSort ltN d 0 d.size)) os := by
  have hless : LessReadsK Tryz.prog 129 #[.pointer (some ⟨Bs, 0, none⟩)] zoo 2 ltN blk 0 d.size w :=
    zau0 _ ltN blk Bs c d w hs hH hblk hne hB fun W dk hsz h1 h2 i j hi hj => zauy blk 0 c Bs d.size W (fun t => dk[t]!.N) h1 (fun t ht => (h2 t ht).2) i j hi hj (by omega)
  exact YtmakmlnfbdablaaGreat.sort_SliceStable_cells Tryz.sortStable 47 83 zanc sortE (by kernel_rfl) (by kernel_rfl) (by kernel_rfl) (by kernel_rfl) 25 (fun _ => by kernel_rfl) zoo 2 (fun _ => rfl) (by kernel_rfl) (fun _ => by kernel_rfl)
    (fun x v hv => by simp [zoo] at hv; rcases hv with rfl | rfl <;> rfl) ltN 129 _
    (enters_of Tryz.func129 (by kernel_rfl) rfl) blk 0 c d h2 (by omega) 162 (by rw [zaux _ h2]; kernel_rfl) false
    (fun args W => run_callFunc_extern Tryz.func162 (by kernel_rfl) (by kernel_rfl) (by kernel_rfl) (e := Extern.ReflectliteSwapper.swap false) (by kernel_rfl) args W) _ hless hH hblk
theorem zahn (blk Bs c : Nat) (d : Array Power) (w : World) (hs : w.cell? ⟨Bs, 0, none⟩ = some (.slice (some ⟨blk, 0, none⟩) d.size c)) (hH : HoldsK zoo 2 w blk 0 d) (hblk : blk < w.heap.size) (hne : Bs ≠ blk) (hB : Bs < w.heap.size)
    (h2 : 2 ≤ d.size) (h12 : d.size ≤ 12) :
    Calls Tryz.prog 130 #[.iface 47 (.slice (some ⟨blk, 0, none⟩) d.size c), .func (.func 131) #[] #[.pointer (some ⟨Bs, 0, none⟩)]] w fun e w' =>
      e = .returned (.tuple #[]) ∧ ∃ n os, w' = grow (putRowK zoo 2 (Sort.ahead w n) blk 0 (Sort.insertionSort ltV d 0 d.size)) os := by
  have hless : LessReadsK Tryz.prog 131 #[.pointer (some ⟨Bs, 0, none⟩)] zoo 2 ltV blk 0 d.size w :=
    zau0 _ ltV blk Bs c d w hs hH hblk hne hB fun W dk hsz h1 h2 i j hi hj => zauz blk 0 c Bs d.size W (fun t => dk[t]!.V) h1 (fun t ht => (h2 t ht).1) i j hi hj (by omega)
  exact Any.sort_Slice_small_cells Tryz.sortSlice 47 83 zanc sortE (by kernel_rfl) (by kernel_rfl) (by kernel_rfl) (by kernel_rfl) 25 (fun _ => by kernel_rfl) zoo 2 (fun _ => rfl) (by kernel_rfl) (fun _ => by kernel_rfl)
    (fun x v hv => by simp [zoo] at hv; rcases hv with rfl | rfl <;> rfl) ltV 131 _
    (enters_of Tryz.func131 (by kernel_rfl) rfl) blk 0 c d h2 h12 162 (by rw [zaux _ h2]; kernel_rfl) false
    (fun args W => run_callFunc_extern Tryz.func162 (by kernel_rfl) (by kernel_rfl) (by kernel_rfl) (e := Extern.ReflectliteSwapper.swap false) (by kernel_rfl) args W) _ hless hH hblk
end YtmakmlnfbdablaaGreat.Ab
end Go.Proofs
