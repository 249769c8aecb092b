/-
  The two sorts that stake.Set calls, at a row of powers: what they leave behind.
-/
import Derived.Test.YtknbejjfejdppaaGreatAbStable
import Derived.Test.YtknbejjfejdppaaGreatAbFun
import Derived.Test.YtknbejjfejdppaaGreatChecked
import Derived.Shelf.Abstract
import Derived.Deep.QuietTactic
import Derived.Ground.GgsProg
import Derived.Ground.GgtProg
namespace Go.Proofs
open Go.Shelf Go.RowKit Go.Lib Go.Sort
set_option linter.unusedVariables false
set_option linter.unusedSimpArgs false

theorem Tryz.lay {l : Option Go.Func} {a b : Go.Func} (h : l = some a) (e : a = b) : l = some b := h.trans (congrArg some e)
def Tryz.sortSlice_ren : Go.Shelf.Ren := ⟨fun | 6 => 74 | 10 => 122 | 11 => 123 | 12 => 125 | 13 => 126 | 14 => 127 | 24 => 164 | 25 => 165 | 26 => 162 | 27 => 166 | 28 => 167 | 29 => 168 | 30 => 169 | 31 => 170 | 32 => 171 | 33 => 172 | 34 => 181 | 35 => 182 | 36 => 183 | 37 => 184 | 38 => 185 | 39 => 189 | n => n, fun | 20 => 20 | 26 => 118 | 35 => 158 | 0 => 0 | 37 => 160 | 3 => 3 | 41 => 167 | 44 => 164 | 49 => 184 | 51 => 186 | 4 => 4 | 54 => 188 | 53 => 187 | 58 => 137 | 5 => 5 | 9 => 9 | 60 => 201 | 64 => 199 | 66 => 209 | 67 => 210 | 17 => 17 | 32 => 155 | 33 => 156 | 82 => 225 | 12 => 12 | 75 => 218 | 76 => 219 | 77 => 220 | 78 => 221 | 79 => 222 | 80 => 223 | n => n, fun | n => n⟩
theorem Tryz.sortSlice : Go.Proofs.LaysGg.n6 Tryz.prog Tryz.sortSlice_ren := {
 mixed := by kernel_rfl
 f6 := Tryz.lay Tryz.func74 (by kernel_rfl)
 f10 := Tryz.lay Tryz.func122 (by kernel_rfl)
 f11 := Tryz.lay Tryz.func123 (by kernel_rfl)
 f12 := Tryz.lay Tryz.func125 (by kernel_rfl)
 f13 := Tryz.lay Tryz.func126 (by kernel_rfl)
 f14 := Tryz.lay Tryz.func127 (by kernel_rfl)
 f24 := Tryz.lay Tryz.func164 (by kernel_rfl)
 f25 := Tryz.lay Tryz.func165 (by kernel_rfl)
 f26 := Tryz.lay Tryz.func162 (by kernel_rfl)
 f27 := Tryz.lay Tryz.func166 (by kernel_rfl)
 f28 := Tryz.lay Tryz.func167 (by kernel_rfl)
 f29 := Tryz.lay Tryz.func168 (by kernel_rfl)
 f30 := Tryz.lay Tryz.func169 (by kernel_rfl)
 f31 := Tryz.lay Tryz.func170 (by kernel_rfl)
 f32 := Tryz.lay Tryz.func171 (by kernel_rfl)
 f33 := Tryz.lay Tryz.func172 (by kernel_rfl)
 f34 := Tryz.lay Tryz.func181 (by kernel_rfl)
 f35 := Tryz.lay Tryz.func182 (by kernel_rfl)
 f36 := Tryz.lay Tryz.func183 (by kernel_rfl)
 f37 := Tryz.lay Tryz.func184 (by kernel_rfl)
 f38 := Tryz.lay Tryz.func185 (by kernel_rfl)
 f39 := Tryz.lay Tryz.func189 (by kernel_rfl)
 t0 := Tryz.underlying0
 a0 := Tryz.isAgg0
 z0 := Tryz.sizeOf0
 v0 := Tryz.zeroValue0
 i0 := by kernel_rfl
 t3 := Tryz.underlying3
 a3 := Tryz.isAgg3
 z3 := Tryz.sizeOf3
 v3 := Tryz.zeroValue3
 i3 := by kernel_rfl
 t4 := Tryz.underlying4
 a4 := Tryz.isAgg4
 z4 := Tryz.sizeOf4
 v4 := Tryz.zeroValue4
 i4 := by kernel_rfl
 t5 := Tryz.underlying5
 a5 := Tryz.isAgg5
 z5 := Tryz.sizeOf5
 v5 := Tryz.zeroValue5
 i5 := by kernel_rfl
 t9 := Tryz.underlying9
 a9 := Tryz.isAgg9
 z9 := Tryz.sizeOf9
 v9 := Tryz.zeroValue9
 i9 := by kernel_rfl
 t12 := Tryz.underlying12
 a12 := Tryz.isAgg12
 z12 := Tryz.sizeOf12
 v12 := Tryz.zeroValue12
 i12 := by kernel_rfl
 t17 := Tryz.underlying17
 a17 := Tryz.isAgg17
 z17 := Tryz.sizeOf17
 v17 := Tryz.zeroValue17
 i17 := by kernel_rfl
 t20 := Tryz.underlying20
 a20 := Tryz.isAgg20
 z20 := Tryz.sizeOf20
 v20 := Tryz.zeroValue20
 i20 := by kernel_rfl
 t26 := Tryz.underlying118
 a26 := Tryz.isAgg118
 z26 := Tryz.sizeOf118
 v26 := Tryz.zeroValue118
 i26 := by kernel_rfl
 t32 := Tryz.underlying155
 a32 := Tryz.isAgg155
 z32 := Tryz.sizeOf155
 v32 := Tryz.zeroValue155
 i32 := by kernel_rfl
 t33 := Tryz.underlying156
 a33 := Tryz.isAgg156
 z33 := Tryz.sizeOf156
 v33 := Tryz.zeroValue156
 i33 := by kernel_rfl
 t35 := Tryz.underlying158
 a35 := Tryz.isAgg158
 z35 := Tryz.sizeOf158
 v35 := Tryz.zeroValue158
 i35 := by kernel_rfl
 t37 := Tryz.underlying160
 a37 := Tryz.isAgg160
 z37 := Tryz.sizeOf160
 v37 := Tryz.zeroValue160
 i37 := by kernel_rfl
 t41 := Tryz.underlying167
 a41 := Tryz.isAgg167
 z41 := Tryz.sizeOf167
 v41 := Tryz.zeroValue167
 i41 := by kernel_rfl
 t44 := Tryz.underlying164
 a44 := Tryz.isAgg164
 z44 := Tryz.sizeOf164
 v44 := Tryz.zeroValue164
 i44 := by kernel_rfl
 t49 := Tryz.underlying184
 a49 := Tryz.isAgg184
 z49 := Tryz.sizeOf184
 v49 := Tryz.zeroValue184
 i49 := by kernel_rfl
 t51 := Tryz.underlying186
 a51 := Tryz.isAgg186
 z51 := Tryz.sizeOf186
 v51 := Tryz.zeroValue186
 i51 := by kernel_rfl
 t53 := Tryz.underlying187
 a53 := Tryz.isAgg187
 z53 := Tryz.sizeOf187
 v53 := Tryz.zeroValue187
 i53 := by kernel_rfl
 t54 := Tryz.underlying188
 a54 := Tryz.isAgg188
 z54 := Tryz.sizeOf188
 v54 := Tryz.zeroValue188
 i54 := by kernel_rfl
 t58 := Tryz.underlying137
 a58 := Tryz.isAgg137
 z58 := Tryz.sizeOf137
 v58 := Tryz.zeroValue137
 i58 := by kernel_rfl
 t60 := Tryz.underlying201
 a60 := Tryz.isAgg201
 z60 := Tryz.sizeOf201
 v60 := Tryz.zeroValue201
 i60 := by kernel_rfl
 t64 := Tryz.underlying199
 a64 := Tryz.isAgg199
 z64 := Tryz.sizeOf199
 v64 := Tryz.zeroValue199
 i64 := by kernel_rfl
 t66 := Tryz.underlying209
 a66 := Tryz.isAgg209
 z66 := Tryz.sizeOf209
 v66 := Tryz.zeroValue209
 i66 := by kernel_rfl
 t67 := Tryz.underlying210
 a67 := Tryz.isAgg210
 z67 := Tryz.sizeOf210
 v67 := Tryz.zeroValue210
 i67 := by kernel_rfl
 t75 := Tryz.underlying218
 a75 := Tryz.isAgg218
 z75 := Tryz.sizeOf218
 v75 := Tryz.zeroValue218
 i75 := by kernel_rfl
 t76 := Tryz.underlying219
 a76 := Tryz.isAgg219
 z76 := Tryz.sizeOf219
 v76 := Tryz.zeroValue219
 i76 := by kernel_rfl
 t77 := Tryz.underlying220
 a77 := Tryz.isAgg220
 z77 := Tryz.sizeOf220
 v77 := Tryz.zeroValue220
 i77 := by kernel_rfl
 t78 := Tryz.underlying221
 a78 := Tryz.isAgg221
 z78 := Tryz.sizeOf221
 v78 := Tryz.zeroValue221
 i78 := by kernel_rfl
 t79 := Tryz.underlying222
 a79 := Tryz.isAgg222
 z79 := Tryz.sizeOf222
 v79 := Tryz.zeroValue222
 i79 := by kernel_rfl
 t80 := Tryz.underlying223
 a80 := Tryz.isAgg223
 z80 := Tryz.sizeOf223
 v80 := Tryz.zeroValue223
 i80 := by kernel_rfl
 t82 := Tryz.underlying225
 a82 := Tryz.isAgg225
 z82 := Tryz.sizeOf225
 v82 := Tryz.zeroValue225
 i82 := by kernel_rfl }
def Tryz.sortStable_ren : Go.Shelf.Ren := ⟨fun | 8 => 72 | 13 => 122 | 14 => 123 | 16 => 125 | 15 => 124 | 29 => 162 | 30 => 163 | 42 => 180 | 49 => 188 | n => n, fun | 20 => 20 | 26 => 118 | 36 => 158 | 0 => 0 | 38 => 160 | 42 => 164 | 3 => 3 | 4 => 4 | 47 => 167 | 17 => 17 | 33 => 155 | 34 => 156 | 89 => 225 | 12 => 12 | 56 => 184 | 82 => 218 | 5 => 5 | 83 => 219 | 84 => 220 | 85 => 221 | 86 => 222 | 87 => 223 | n => n, fun | n => n⟩
theorem Tryz.sortStable : Go.Proofs.LaysGt.n8 Tryz.prog Tryz.sortStable_ren := {
 mixed := by kernel_rfl
 f8 := Tryz.lay Tryz.func72 (by kernel_rfl)
 f13 := Tryz.lay Tryz.func122 (by kernel_rfl)
 f14 := Tryz.lay Tryz.func123 (by kernel_rfl)
 f15 := Tryz.lay Tryz.func124 (by kernel_rfl)
 f16 := Tryz.lay Tryz.func125 (by kernel_rfl)
 f29 := Tryz.lay Tryz.func162 (by kernel_rfl)
 f30 := Tryz.lay Tryz.func163 (by kernel_rfl)
 f42 := Tryz.lay Tryz.func180 (by kernel_rfl)
 f49 := Tryz.lay Tryz.func188 (by kernel_rfl)
 t0 := Tryz.underlying0
 a0 := Tryz.isAgg0
 z0 := Tryz.sizeOf0
 v0 := Tryz.zeroValue0
 i0 := by kernel_rfl
 t3 := Tryz.underlying3
 a3 := Tryz.isAgg3
 z3 := Tryz.sizeOf3
 v3 := Tryz.zeroValue3
 i3 := by kernel_rfl
 t4 := Tryz.underlying4
 a4 := Tryz.isAgg4
 z4 := Tryz.sizeOf4
 v4 := Tryz.zeroValue4
 i4 := by kernel_rfl
 t5 := Tryz.underlying5
 a5 := Tryz.isAgg5
 z5 := Tryz.sizeOf5
 v5 := Tryz.zeroValue5
 i5 := by kernel_rfl
 t12 := Tryz.underlying12
 a12 := Tryz.isAgg12
 z12 := Tryz.sizeOf12
 v12 := Tryz.zeroValue12
 i12 := by kernel_rfl
 t17 := Tryz.underlying17
 a17 := Tryz.isAgg17
 z17 := Tryz.sizeOf17
 v17 := Tryz.zeroValue17
 i17 := by kernel_rfl
 t20 := Tryz.underlying20
 a20 := Tryz.isAgg20
 z20 := Tryz.sizeOf20
 v20 := Tryz.zeroValue20
 i20 := by kernel_rfl
 t26 := Tryz.underlying118
 a26 := Tryz.isAgg118
 z26 := Tryz.sizeOf118
 v26 := Tryz.zeroValue118
 i26 := by kernel_rfl
 t33 := Tryz.underlying155
 a33 := Tryz.isAgg155
 z33 := Tryz.sizeOf155
 v33 := Tryz.zeroValue155
 i33 := by kernel_rfl
 t34 := Tryz.underlying156
 a34 := Tryz.isAgg156
 z34 := Tryz.sizeOf156
 v34 := Tryz.zeroValue156
 i34 := by kernel_rfl
 t36 := Tryz.underlying158
 a36 := Tryz.isAgg158
 z36 := Tryz.sizeOf158
 v36 := Tryz.zeroValue158
 i36 := by kernel_rfl
 t38 := Tryz.underlying160
 a38 := Tryz.isAgg160
 z38 := Tryz.sizeOf160
 v38 := Tryz.zeroValue160
 i38 := by kernel_rfl
 t42 := Tryz.underlying164
 a42 := Tryz.isAgg164
 z42 := Tryz.sizeOf164
 v42 := Tryz.zeroValue164
 i42 := by kernel_rfl
 t47 := Tryz.underlying167
 a47 := Tryz.isAgg167
 z47 := Tryz.sizeOf167
 v47 := Tryz.zeroValue167
 i47 := by kernel_rfl
 t56 := Tryz.underlying184
 a56 := Tryz.isAgg184
 z56 := Tryz.sizeOf184
 v56 := Tryz.zeroValue184
 i56 := by kernel_rfl
 t82 := Tryz.underlying218
 a82 := Tryz.isAgg218
 z82 := Tryz.sizeOf218
 v82 := Tryz.zeroValue218
 i82 := by kernel_rfl
 t83 := Tryz.underlying219
 a83 := Tryz.isAgg219
 z83 := Tryz.sizeOf219
 v83 := Tryz.zeroValue219
 i83 := by kernel_rfl
 t84 := Tryz.underlying220
 a84 := Tryz.isAgg220
 z84 := Tryz.sizeOf220
 v84 := Tryz.zeroValue220
 i84 := by kernel_rfl
 t85 := Tryz.underlying221
 a85 := Tryz.isAgg221
 z85 := Tryz.sizeOf221
 v85 := Tryz.zeroValue221
 i85 := by kernel_rfl
 t86 := Tryz.underlying222
 a86 := Tryz.isAgg222
 z86 := Tryz.sizeOf222
 v86 := Tryz.zeroValue222
 i86 := by kernel_rfl
 t87 := Tryz.underlying223
 a87 := Tryz.isAgg223
 z87 := Tryz.sizeOf223
 v87 := Tryz.zeroValue223
 i87 := by kernel_rfl
 t89 := Tryz.underlying225
 a89 := Tryz.isAgg225
 z89 := Tryz.sizeOf225
 v89 := Tryz.zeroValue225
 i89 := by kernel_rfl }

namespace YtknbejjfejdppaaGreat.Ab
noncomputable def sortT : TypeInfo := (Tryz.prog.info? 33).get (by kernel_rfl)
noncomputable def sortE : TypeInfo := (Tryz.prog.info? 116).get (by kernel_rfl)
theorem sortK (n : Nat) (h2 : 2 ≤ n) : Lib.swapperK n sortE 25 = 9 := by
  have a : sortE.hasPointers = false := by kernel_rfl
  have b : sortE.bytes = 16 := by kernel_rfl
  have c : (n == 0) = false := by simp; omega
  have d : (n == 1) = false := by simp; omega
  simp [Lib.swapperK, a, b, c, d]

def encPw (p : Power) : List Value := [.int .i64 p.V, .int .i64 p.N]
def ltN (a b : Power) : Bool := decide (a.N > b.N)
def ltV (a b : Power) : Bool := decide (a.V < b.V)

set_option maxHeartbeats 2000000 in
theorem less_N (blk off c Bs size : Nat) (W : World) (G : Nat → Int) (hs : W.cell? ⟨Bs, 0, none⟩ = some (.slice (some ⟨blk, off, none⟩) size c))
    (hc : ∀ t, t < size → W.cell? ⟨blk, off + t * 2 + 1, none⟩ = some (.int .i64 (G t))) (i j : Nat) (hi : i < size) (hj : j < size) (_hsz : size < 4611686018427387904) :
    Calls Tryz.prog 73 #[.int .i64 i, .int .i64 j, .pointer (some ⟨Bs, 0, none⟩)] W fun e w' => e = .returned (.bool (decide (G i > G j))) ∧ ∃ q, w' = W.drewN q := by
  have ci := hc i hi
  have cj := hc j hj
  go_enter Tryz.func73, Tryz.ntmps73
  go_wp2
  go_quiet (fail)
  go_wp2
  go_ret
  exact ⟨rfl, nq, rfl⟩

set_option maxHeartbeats 2000000 in
theorem less_V (blk off c Bs size : Nat) (W : World) (G : Nat → Int) (hs : W.cell? ⟨Bs, 0, none⟩ = some (.slice (some ⟨blk, off, none⟩) size c))
    (hc : ∀ t, t < size → W.cell? ⟨blk, off + t * 2, none⟩ = some (.int .i64 (G t))) (i j : Nat) (hi : i < size) (hj : j < size) (_hsz : size < 4611686018427387904) :
    Calls Tryz.prog 75 #[.int .i64 i, .int .i64 j, .pointer (some ⟨Bs, 0, none⟩)] W fun e w' => e = .returned (.bool (decide (G i < G j))) ∧ ∃ q, w' = W.drewN q := by
  have ci := hc i hi
  have cj := hc j hj
  go_enter Tryz.func75, Tryz.ntmps75
  go_wp2
  go_quiet (fail)
  go_wp2
  go_ret
  exact ⟨rfl, nq, rfl⟩

/-- What the closures are asked, out of the box and the row. -/
theorem lessK (g : Nat) (lt : Power → Power → Bool) (blk Bs c : Nat) (d : Array Power) (w : World) (hs : w.cell? ⟨Bs, 0, none⟩ = some (.slice (some ⟨blk, 0, none⟩) d.size c)) (hH : HoldsK encPw 2 w blk 0 d)
    (hblk : blk < w.heap.size) (hne : Bs ≠ blk) (hB : Bs < w.heap.size)
    (key : ∀ (W : World) (dk : Array Power), dk.size = d.size → W.cell? ⟨Bs, 0, none⟩ = some (.slice (some ⟨blk, 0, none⟩) d.size c) → (∀ t, t < d.size → W.cell? ⟨blk, 0 + t * 2, none⟩ = some (.int .i64 dk[t]!.V) ∧ W.cell? ⟨blk, 0 + t * 2 + 1, none⟩ = some (.int .i64 dk[t]!.N)) →
      ∀ i j : Nat, i < d.size → j < d.size → Calls Tryz.prog g #[.int .i64 i, .int .i64 j, .pointer (some ⟨Bs, 0, none⟩)] W fun e w' => e = .returned (.bool (lt dk[i]! dk[j]!)) ∧ ∃ q, w' = W.drewN q) :
    LessReadsK Tryz.prog g #[.pointer (some ⟨Bs, 0, none⟩)] encPw 2 lt blk 0 d.size w := by
  intro m os dk hsz i j hi hj
  have e : sortWorldK encPw 2 w blk 0 m dk os = putRowK encPw 2 (grow (Sort.ahead w m) os) blk 0 dk := by
    unfold sortWorldK; rw [putRowK_grow _ _ (Sort.ahead w m) _ blk 0 _ hblk]
  have hHg : HoldsK encPw 2 (grow (Sort.ahead w m) os) blk 0 d := holdsK_grow _ _ _ _ blk 0 d hblk (holdsK_ahead _ _ _ _ _ _ _ hH)
  refine key _ dk hsz ?_ (fun t ht => ?_) i j hi hj
  · rw [e, cell?_putRowK_other _ _ _ blk 0 dk _ hne, cell?_grow _ _ _ (by exact hB)]
    exact hs
  · rw [e]
    have h0 := ((holdsK_putRowK _ _ _ blk 0 d dk hHg hsz).cell (i := t) (c := 0) (by omega) (by omega)).1
    have h1 := ((holdsK_putRowK _ _ _ blk 0 d dk hHg hsz).cell (i := t) (c := 1) (by omega) (by omega)).1
    exact ⟨h0, h1⟩

theorem sort_stable (blk Bs c : Nat) (d : Array Power) (w : World) (hs : w.cell? ⟨Bs, 0, none⟩ = some (.slice (some ⟨blk, 0, none⟩) d.size c)) (hH : HoldsK encPw 2 w blk 0 d) (hblk : blk < w.heap.size) (hne : Bs ≠ blk) (hB : Bs < w.heap.size)
    (h2 : 2 ≤ d.size) (h12 : d.size ≤ 12) :
    Calls Tryz.prog 72 #[.iface 33 (.slice (some ⟨blk, 0, none⟩) d.size c), .func (.func 73) #[] #[.pointer (some ⟨Bs, 0, none⟩)]] w fun e w' =>
      e = .returned (.tuple #[]) ∧ ∃ n os, w' = grow (putRowK encPw 2 (Sort.ahead w n) blk 0 (Sort.insertionSort ltN d 0 d.size)) os := by
  have hless : LessReadsK Tryz.prog 73 #[.pointer (some ⟨Bs, 0, none⟩)] encPw 2 ltN blk 0 d.size w :=
    lessK _ ltN blk Bs c d w hs hH hblk hne hB fun W dk hsz h1 h2 i j hi hj => less_N blk 0 c Bs d.size W (fun t => dk[t]!.N) h1 (fun t ht => (h2 t ht).2) i j hi hj (by omega)
  exact YtknbejjfejdppaaGreat.sort_SliceStable_cells Tryz.sortStable 33 116 sortT sortE (by kernel_rfl) (by kernel_rfl) (by kernel_rfl) (by kernel_rfl) 25 (fun _ => by kernel_rfl) encPw 2 (fun _ => rfl) (by kernel_rfl) (fun _ => by kernel_rfl)
    (fun x v hv => by simp [encPw] at hv; rcases hv with rfl | rfl <;> rfl) ltN 73 _
    (enters_of Tryz.func73 (by kernel_rfl) rfl) blk 0 c d h2 (by omega) 161 (by rw [sortK _ h2]; kernel_rfl) false
    (fun args W => run_callFunc_extern Tryz.func161 (by kernel_rfl) (by kernel_rfl) (by kernel_rfl) (e := Extern.ReflectliteSwapper.swap false) (by kernel_rfl) args W) _ hless hH hblk

theorem sort_slice (blk Bs c : Nat) (d : Array Power) (w : World) (hs : w.cell? ⟨Bs, 0, none⟩ = some (.slice (some ⟨blk, 0, none⟩) d.size c)) (hH : HoldsK encPw 2 w blk 0 d) (hblk : blk < w.heap.size) (hne : Bs ≠ blk) (hB : Bs < w.heap.size)
    (h2 : 2 ≤ d.size) (h12 : d.size ≤ 12) :
    Calls Tryz.prog 74 #[.iface 33 (.slice (some ⟨blk, 0, none⟩) d.size c), .func (.func 75) #[] #[.pointer (some ⟨Bs, 0, none⟩)]] w fun e w' =>
      e = .returned (.tuple #[]) ∧ ∃ n os, w' = grow (putRowK encPw 2 (Sort.ahead w n) blk 0 (Sort.insertionSort ltV d 0 d.size)) os := by
  have hless : LessReadsK Tryz.prog 75 #[.pointer (some ⟨Bs, 0, none⟩)] encPw 2 ltV blk 0 d.size w :=
    lessK _ ltV blk Bs c d w hs hH hblk hne hB fun W dk hsz h1 h2 i j hi hj => less_V blk 0 c Bs d.size W (fun t => dk[t]!.V) h1 (fun t ht => (h2 t ht).1) i j hi hj (by omega)
  exact Any.sort_Slice_small_cells Tryz.sortSlice 33 116 sortT sortE (by kernel_rfl) (by kernel_rfl) (by kernel_rfl) (by kernel_rfl) 25 (fun _ => by kernel_rfl) encPw 2 (fun _ => rfl) (by kernel_rfl) (fun _ => by kernel_rfl)
    (fun x v hv => by simp [encPw] at hv; rcases hv with rfl | rfl <;> rfl) ltV 75 _
    (enters_of Tryz.func75 (by kernel_rfl) rfl) blk 0 c d h2 h12 161 (by rw [sortK _ h2]; kernel_rfl) false
    (fun args W => run_callFunc_extern Tryz.func161 (by kernel_rfl) (by kernel_rfl) (by kernel_rfl) (e := Extern.ReflectliteSwapper.swap false) (by kernel_rfl) args W) _ hless hH hblk

end YtknbejjfejdppaaGreat.Ab
end Go.Proofs
