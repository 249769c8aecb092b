/-
  The two sorts that stake.Set calls, at a row of powers: what they leave behind.
-/
import Derived.Test.YtbpehnghffljiaaAbStable
import Derived.Test.YtbpehnghffljiaaAbFun
import Derived.Test.YtbpehnghffljiaaChecked
import Derived.Shelf.Abstract
import Derived.Deep.QuietTactic
import Derived.Ground.GgsProg
import Derived.Ground.GgtProg
namespace Go.Proofs
open Go.Shelf Go.RowKit Go.Lib Go.Sort
set_option linter.unusedVariables false
set_option linter.unusedSimpArgs false

theorem Try.lay {l : Option Go.Func} {a b : Go.Func} (h : l = some a) (e : a = b) : l = some b := h.trans (congrArg some e)
def Try.sortSlice_ren : Go.Shelf.Ren := ⟨fun | 6 => 66 | 10 => 89 | 11 => 90 | 12 => 92 | 13 => 93 | 14 => 94 | 24 => 110 | 25 => 111 | 26 => 108 | 27 => 112 | 28 => 113 | 29 => 114 | 30 => 115 | 31 => 116 | 32 => 117 | 33 => 118 | 34 => 120 | 35 => 121 | 36 => 122 | 37 => 123 | 38 => 124 | 39 => 126 | n => n, fun | 20 => 20 | 26 => 84 | 35 => 107 | 0 => 0 | 37 => 109 | 3 => 3 | 41 => 99 | 44 => 113 | 49 => 127 | 51 => 92 | 4 => 4 | 54 => 129 | 53 => 128 | 58 => 133 | 5 => 5 | 9 => 9 | 60 => 135 | 64 => 120 | 66 => 140 | 67 => 141 | 17 => 17 | 32 => 104 | 33 => 105 | 82 => 156 | 12 => 12 | 75 => 149 | 76 => 150 | 77 => 151 | 78 => 152 | 79 => 153 | 80 => 154 | n => n, fun | n => n⟩
theorem Try.sortSlice : Go.Proofs.LaysGg.n6 Try.prog Try.sortSlice_ren := {
 mixed := by kernel_rfl
 f6 := Try.lay Try.func66 (by kernel_rfl)
 f10 := Try.lay Try.func89 (by kernel_rfl)
 f11 := Try.lay Try.func90 (by kernel_rfl)
 f12 := Try.lay Try.func92 (by kernel_rfl)
 f13 := Try.lay Try.func93 (by kernel_rfl)
 f14 := Try.lay Try.func94 (by kernel_rfl)
 f24 := Try.lay Try.func110 (by kernel_rfl)
 f25 := Try.lay Try.func111 (by kernel_rfl)
 f26 := Try.lay Try.func108 (by kernel_rfl)
 f27 := Try.lay Try.func112 (by kernel_rfl)
 f28 := Try.lay Try.func113 (by kernel_rfl)
 f29 := Try.lay Try.func114 (by kernel_rfl)
 f30 := Try.lay Try.func115 (by kernel_rfl)
 f31 := Try.lay Try.func116 (by kernel_rfl)
 f32 := Try.lay Try.func117 (by kernel_rfl)
 f33 := Try.lay Try.func118 (by kernel_rfl)
 f34 := Try.lay Try.func120 (by kernel_rfl)
 f35 := Try.lay Try.func121 (by kernel_rfl)
 f36 := Try.lay Try.func122 (by kernel_rfl)
 f37 := Try.lay Try.func123 (by kernel_rfl)
 f38 := Try.lay Try.func124 (by kernel_rfl)
 f39 := Try.lay Try.func126 (by kernel_rfl)
 t0 := Try.underlying0
 a0 := Try.isAgg0
 z0 := Try.sizeOf0
 v0 := Try.zeroValue0
 i0 := by kernel_rfl
 t3 := Try.underlying3
 a3 := Try.isAgg3
 z3 := Try.sizeOf3
 v3 := Try.zeroValue3
 i3 := by kernel_rfl
 t4 := Try.underlying4
 a4 := Try.isAgg4
 z4 := Try.sizeOf4
 v4 := Try.zeroValue4
 i4 := by kernel_rfl
 t5 := Try.underlying5
 a5 := Try.isAgg5
 z5 := Try.sizeOf5
 v5 := Try.zeroValue5
 i5 := by kernel_rfl
 t9 := Try.underlying9
 a9 := Try.isAgg9
 z9 := Try.sizeOf9
 v9 := Try.zeroValue9
 i9 := by kernel_rfl
 t12 := Try.underlying12
 a12 := Try.isAgg12
 z12 := Try.sizeOf12
 v12 := Try.zeroValue12
 i12 := by kernel_rfl
 t17 := Try.underlying17
 a17 := Try.isAgg17
 z17 := Try.sizeOf17
 v17 := Try.zeroValue17
 i17 := by kernel_rfl
 t20 := Try.underlying20
 a20 := Try.isAgg20
 z20 := Try.sizeOf20
 v20 := Try.zeroValue20
 i20 := by kernel_rfl
 t26 := Try.underlying84
 a26 := Try.isAgg84
 z26 := Try.sizeOf84
 v26 := Try.zeroValue84
 i26 := by kernel_rfl
 t32 := Try.underlying104
 a32 := Try.isAgg104
 z32 := Try.sizeOf104
 v32 := Try.zeroValue104
 i32 := by kernel_rfl
 t33 := Try.underlying105
 a33 := Try.isAgg105
 z33 := Try.sizeOf105
 v33 := Try.zeroValue105
 i33 := by kernel_rfl
 t35 := Try.underlying107
 a35 := Try.isAgg107
 z35 := Try.sizeOf107
 v35 := Try.zeroValue107
 i35 := by kernel_rfl
 t37 := Try.underlying109
 a37 := Try.isAgg109
 z37 := Try.sizeOf109
 v37 := Try.zeroValue109
 i37 := by kernel_rfl
 t41 := Try.underlying99
 a41 := Try.isAgg99
 z41 := Try.sizeOf99
 v41 := Try.zeroValue99
 i41 := by kernel_rfl
 t44 := Try.underlying113
 a44 := Try.isAgg113
 z44 := Try.sizeOf113
 v44 := Try.zeroValue113
 i44 := by kernel_rfl
 t49 := Try.underlying127
 a49 := Try.isAgg127
 z49 := Try.sizeOf127
 v49 := Try.zeroValue127
 i49 := by kernel_rfl
 t51 := Try.underlying92
 a51 := Try.isAgg92
 z51 := Try.sizeOf92
 v51 := Try.zeroValue92
 i51 := by kernel_rfl
 t53 := Try.underlying128
 a53 := Try.isAgg128
 z53 := Try.sizeOf128
 v53 := Try.zeroValue128
 i53 := by kernel_rfl
 t54 := Try.underlying129
 a54 := Try.isAgg129
 z54 := Try.sizeOf129
 v54 := Try.zeroValue129
 i54 := by kernel_rfl
 t58 := Try.underlying133
 a58 := Try.isAgg133
 z58 := Try.sizeOf133
 v58 := Try.zeroValue133
 i58 := by kernel_rfl
 t60 := Try.underlying135
 a60 := Try.isAgg135
 z60 := Try.sizeOf135
 v60 := Try.zeroValue135
 i60 := by kernel_rfl
 t64 := Try.underlying120
 a64 := Try.isAgg120
 z64 := Try.sizeOf120
 v64 := Try.zeroValue120
 i64 := by kernel_rfl
 t66 := Try.underlying140
 a66 := Try.isAgg140
 z66 := Try.sizeOf140
 v66 := Try.zeroValue140
 i66 := by kernel_rfl
 t67 := Try.underlying141
 a67 := Try.isAgg141
 z67 := Try.sizeOf141
 v67 := Try.zeroValue141
 i67 := by kernel_rfl
 t75 := Try.underlying149
 a75 := Try.isAgg149
 z75 := Try.sizeOf149
 v75 := Try.zeroValue149
 i75 := by kernel_rfl
 t76 := Try.underlying150
 a76 := Try.isAgg150
 z76 := Try.sizeOf150
 v76 := Try.zeroValue150
 i76 := by kernel_rfl
 t77 := Try.underlying151
 a77 := Try.isAgg151
 z77 := Try.sizeOf151
 v77 := Try.zeroValue151
 i77 := by kernel_rfl
 t78 := Try.underlying152
 a78 := Try.isAgg152
 z78 := Try.sizeOf152
 v78 := Try.zeroValue152
 i78 := by kernel_rfl
 t79 := Try.underlying153
 a79 := Try.isAgg153
 z79 := Try.sizeOf153
 v79 := Try.zeroValue153
 i79 := by kernel_rfl
 t80 := Try.underlying154
 a80 := Try.isAgg154
 z80 := Try.sizeOf154
 v80 := Try.zeroValue154
 i80 := by kernel_rfl
 t82 := Try.underlying156
 a82 := Try.isAgg156
 z82 := Try.sizeOf156
 v82 := Try.zeroValue156
 i82 := by kernel_rfl }
def Try.sortStable_ren : Go.Shelf.Ren := ⟨fun | 8 => 64 | 13 => 89 | 14 => 90 | 16 => 92 | 15 => 91 | 29 => 108 | 30 => 109 | 42 => 119 | 49 => 125 | n => n, fun | 20 => 20 | 26 => 84 | 36 => 107 | 0 => 0 | 38 => 109 | 42 => 113 | 3 => 3 | 4 => 4 | 47 => 99 | 17 => 17 | 33 => 104 | 34 => 105 | 89 => 156 | 12 => 12 | 56 => 127 | 82 => 149 | 5 => 5 | 83 => 150 | 84 => 151 | 85 => 152 | 86 => 153 | 87 => 154 | n => n, fun | n => n⟩
theorem Try.sortStable : Go.Proofs.LaysGt.n8 Try.prog Try.sortStable_ren := {
 mixed := by kernel_rfl
 f8 := Try.lay Try.func64 (by kernel_rfl)
 f13 := Try.lay Try.func89 (by kernel_rfl)
 f14 := Try.lay Try.func90 (by kernel_rfl)
 f15 := Try.lay Try.func91 (by kernel_rfl)
 f16 := Try.lay Try.func92 (by kernel_rfl)
 f29 := Try.lay Try.func108 (by kernel_rfl)
 f30 := Try.lay Try.func109 (by kernel_rfl)
 f42 := Try.lay Try.func119 (by kernel_rfl)
 f49 := Try.lay Try.func125 (by kernel_rfl)
 t0 := Try.underlying0
 a0 := Try.isAgg0
 z0 := Try.sizeOf0
 v0 := Try.zeroValue0
 i0 := by kernel_rfl
 t3 := Try.underlying3
 a3 := Try.isAgg3
 z3 := Try.sizeOf3
 v3 := Try.zeroValue3
 i3 := by kernel_rfl
 t4 := Try.underlying4
 a4 := Try.isAgg4
 z4 := Try.sizeOf4
 v4 := Try.zeroValue4
 i4 := by kernel_rfl
 t5 := Try.underlying5
 a5 := Try.isAgg5
 z5 := Try.sizeOf5
 v5 := Try.zeroValue5
 i5 := by kernel_rfl
 t12 := Try.underlying12
 a12 := Try.isAgg12
 z12 := Try.sizeOf12
 v12 := Try.zeroValue12
 i12 := by kernel_rfl
 t17 := Try.underlying17
 a17 := Try.isAgg17
 z17 := Try.sizeOf17
 v17 := Try.zeroValue17
 i17 := by kernel_rfl
 t20 := Try.underlying20
 a20 := Try.isAgg20
 z20 := Try.sizeOf20
 v20 := Try.zeroValue20
 i20 := by kernel_rfl
 t26 := Try.underlying84
 a26 := Try.isAgg84
 z26 := Try.sizeOf84
 v26 := Try.zeroValue84
 i26 := by kernel_rfl
 t33 := Try.underlying104
 a33 := Try.isAgg104
 z33 := Try.sizeOf104
 v33 := Try.zeroValue104
 i33 := by kernel_rfl
 t34 := Try.underlying105
 a34 := Try.isAgg105
 z34 := Try.sizeOf105
 v34 := Try.zeroValue105
 i34 := by kernel_rfl
 t36 := Try.underlying107
 a36 := Try.isAgg107
 z36 := Try.sizeOf107
 v36 := Try.zeroValue107
 i36 := by kernel_rfl
 t38 := Try.underlying109
 a38 := Try.isAgg109
 z38 := Try.sizeOf109
 v38 := Try.zeroValue109
 i38 := by kernel_rfl
 t42 := Try.underlying113
 a42 := Try.isAgg113
 z42 := Try.sizeOf113
 v42 := Try.zeroValue113
 i42 := by kernel_rfl
 t47 := Try.underlying99
 a47 := Try.isAgg99
 z47 := Try.sizeOf99
 v47 := Try.zeroValue99
 i47 := by kernel_rfl
 t56 := Try.underlying127
 a56 := Try.isAgg127
 z56 := Try.sizeOf127
 v56 := Try.zeroValue127
 i56 := by kernel_rfl
 t82 := Try.underlying149
 a82 := Try.isAgg149
 z82 := Try.sizeOf149
 v82 := Try.zeroValue149
 i82 := by kernel_rfl
 t83 := Try.underlying150
 a83 := Try.isAgg150
 z83 := Try.sizeOf150
 v83 := Try.zeroValue150
 i83 := by kernel_rfl
 t84 := Try.underlying151
 a84 := Try.isAgg151
 z84 := Try.sizeOf151
 v84 := Try.zeroValue151
 i84 := by kernel_rfl
 t85 := Try.underlying152
 a85 := Try.isAgg152
 z85 := Try.sizeOf152
 v85 := Try.zeroValue152
 i85 := by kernel_rfl
 t86 := Try.underlying153
 a86 := Try.isAgg153
 z86 := Try.sizeOf153
 v86 := Try.zeroValue153
 i86 := by kernel_rfl
 t87 := Try.underlying154
 a87 := Try.isAgg154
 z87 := Try.sizeOf154
 v87 := Try.zeroValue154
 i87 := by kernel_rfl
 t89 := Try.underlying156
 a89 := Try.isAgg156
 z89 := Try.sizeOf156
 v89 := Try.zeroValue156
 i89 := by kernel_rfl }

namespace Ytbpehnghffljiaa.Ab
noncomputable def sortT : TypeInfo := (Try.prog.info? 42).get (by kernel_rfl)
noncomputable def sortE : TypeInfo := (Try.prog.info? 45).get (by kernel_rfl)
theorem sortK (n : Nat) (h2 : 2 ≤ n) : Lib.swapperK n sortE 25 = 9 := by
  have a : sortE.hasPointers = false := by kernel_rfl
  have b : sortE.bytes = 16 := by kernel_rfl
  have c : (n == 0) = false := by simp; omega
  have d : (n == 1) = false := by simp; omega
  simp [Lib.swapperK, a, b, c, d]

def encPw (p : Power) : List Value := [.int .i64 p.V, .int .i64 p.N]
def ltN (a b : Power) : Bool := decide (a.N > b.N)
def ltV (a b : Power) : Bool := decide (a.V < b.V)

set_option maxHeartbeats 2000000 in
theorem less_N (blk off c Bs size : Nat) (W : World) (G : Nat → Int) (hs : W.cell? ⟨Bs, 0, none⟩ = some (.slice (some ⟨blk, off, none⟩) size c))
    (hc : ∀ t, t < size → W.cell? ⟨blk, off + t * 2 + 1, none⟩ = some (.int .i64 (G t))) (i j : Nat) (hi : i < size) (hj : j < size) (_hsz : size < 4611686018427387904) :
    Calls Try.prog 65 #[.int .i64 i, .int .i64 j, .pointer (some ⟨Bs, 0, none⟩)] W fun e w' => e = .returned (.bool (decide (G i > G j))) ∧ ∃ q, w' = W.drewN q := by
  have ci := hc i hi
  have cj := hc j hj
  go_enter Try.func65, Try.ntmps65
  go_wp2
  go_quiet (fail)
  go_wp2
  go_ret
  exact ⟨rfl, nq, rfl⟩

set_option maxHeartbeats 2000000 in
theorem less_V (blk off c Bs size : Nat) (W : World) (G : Nat → Int) (hs : W.cell? ⟨Bs, 0, none⟩ = some (.slice (some ⟨blk, off, none⟩) size c))
    (hc : ∀ t, t < size → W.cell? ⟨blk, off + t * 2, none⟩ = some (.int .i64 (G t))) (i j : Nat) (hi : i < size) (hj : j < size) (_hsz : size < 4611686018427387904) :
    Calls Try.prog 67 #[.int .i64 i, .int .i64 j, .pointer (some ⟨Bs, 0, none⟩)] W fun e w' => e = .returned (.bool (decide (G i < G j))) ∧ ∃ q, w' = W.drewN q := by
  have ci := hc i hi
  have cj := hc j hj
  go_enter Try.func67, Try.ntmps67
  go_wp2
  go_quiet (fail)
  go_wp2
  go_ret
  exact ⟨rfl, nq, rfl⟩

/-- What the closures are asked, out of the box and the row. -/
theorem lessK (g : Nat) (lt : Power → Power → Bool) (blk Bs c : Nat) (d : Array Power) (w : World) (hs : w.cell? ⟨Bs, 0, none⟩ = some (.slice (some ⟨blk, 0, none⟩) d.size c)) (hH : HoldsK encPw 2 w blk 0 d)
    (hblk : blk < w.heap.size) (hne : Bs ≠ blk) (hB : Bs < w.heap.size)
    (key : ∀ (W : World) (dk : Array Power), dk.size = d.size → W.cell? ⟨Bs, 0, none⟩ = some (.slice (some ⟨blk, 0, none⟩) d.size c) → (∀ t, t < d.size → W.cell? ⟨blk, 0 + t * 2, none⟩ = some (.int .i64 dk[t]!.V) ∧ W.cell? ⟨blk, 0 + t * 2 + 1, none⟩ = some (.int .i64 dk[t]!.N)) →
      ∀ i j : Nat, i < d.size → j < d.size → Calls Try.prog g #[.int .i64 i, .int .i64 j, .pointer (some ⟨Bs, 0, none⟩)] W fun e w' => e = .returned (.bool (lt dk[i]! dk[j]!)) ∧ ∃ q, w' = W.drewN q) :
    LessReadsK Try.prog g #[.pointer (some ⟨Bs, 0, none⟩)] encPw 2 lt blk 0 d.size w := by
  intro m os dk hsz i j hi hj
  have e : sortWorldK encPw 2 w blk 0 m dk os = putRowK encPw 2 (grow (Sort.ahead w m) os) blk 0 dk := by
    unfold sortWorldK; rw [putRowK_grow _ _ (Sort.ahead w m) _ blk 0 _ hblk]
  have hHg : HoldsK encPw 2 (grow (Sort.ahead w m) os) blk 0 d := holdsK_grow _ _ _ _ blk 0 d hblk (holdsK_ahead _ _ _ _ _ _ _ hH)
  refine key _ dk hsz ?_ (fun t ht => ?_) i j hi hj
  · rw [e, cell?_putRowK_other _ _ _ blk 0 dk _ hne, cell?_grow _ _ _ (by exact hB)]
    exact hs
  · rw [e]
    have h0 := ((holdsK_putRowK _ _ _ blk 0 d dk hHg hsz).cell (i := t) (c := 0) (by omega) (by omega)).1
    have h1 := ((holdsK_putRowK _ _ _ blk 0 d dk hHg hsz).cell (i := t) (c := 1) (by omega) (by omega)).1
    exact ⟨h0, h1⟩

theorem sort_stable (blk Bs c : Nat) (d : Array Power) (w : World) (hs : w.cell? ⟨Bs, 0, none⟩ = some (.slice (some ⟨blk, 0, none⟩) d.size c)) (hH : HoldsK encPw 2 w blk 0 d) (hblk : blk < w.heap.size) (hne : Bs ≠ blk) (hB : Bs < w.heap.size)
    (h2 : 2 ≤ d.size) (h12 : d.size ≤ 12) :
    Calls Try.prog 64 #[.iface 42 (.slice (some ⟨blk, 0, none⟩) d.size c), .func (.func 65) #[] #[.pointer (some ⟨Bs, 0, none⟩)]] w fun e w' =>
      e = .returned (.tuple #[]) ∧ ∃ n os, w' = grow (putRowK encPw 2 (Sort.ahead w n) blk 0 (Sort.insertionSort ltN d 0 d.size)) os := by
  have hless : LessReadsK Try.prog 65 #[.pointer (some ⟨Bs, 0, none⟩)] encPw 2 ltN blk 0 d.size w :=
    lessK _ ltN blk Bs c d w hs hH hblk hne hB fun W dk hsz h1 h2 i j hi hj => less_N blk 0 c Bs d.size W (fun t => dk[t]!.N) h1 (fun t ht => (h2 t ht).2) i j hi hj (by omega)
  exact Ytbpehnghffljiaa.sort_SliceStable_cells Try.sortStable 42 45 sortT sortE (by kernel_rfl) (by kernel_rfl) (by kernel_rfl) (by kernel_rfl) 25 (fun _ => by kernel_rfl) encPw 2 (fun _ => rfl) (by kernel_rfl) (fun _ => by kernel_rfl)
    (fun x v hv => by simp [encPw] at hv; rcases hv with rfl | rfl <;> rfl) ltN 65 _
    (enters_of Try.func65 (by kernel_rfl) rfl) blk 0 c d h2 (by omega) 107 (by rw [sortK _ h2]; kernel_rfl) false
    (fun args W => run_callFunc_extern Try.func107 (by kernel_rfl) (by kernel_rfl) (by kernel_rfl) (e := Extern.ReflectliteSwapper.swap false) (by kernel_rfl) args W) _ hless hH hblk

theorem sort_slice (blk Bs c : Nat) (d : Array Power) (w : World) (hs : w.cell? ⟨Bs, 0, none⟩ = some (.slice (some ⟨blk, 0, none⟩) d.size c)) (hH : HoldsK encPw 2 w blk 0 d) (hblk : blk < w.heap.size) (hne : Bs ≠ blk) (hB : Bs < w.heap.size)
    (h2 : 2 ≤ d.size) (h12 : d.size ≤ 12) :
    Calls Try.prog 66 #[.iface 42 (.slice (some ⟨blk, 0, none⟩) d.size c), .func (.func 67) #[] #[.pointer (some ⟨Bs, 0, none⟩)]] w fun e w' =>
      e = .returned (.tuple #[]) ∧ ∃ n os, w' = grow (putRowK encPw 2 (Sort.ahead w n) blk 0 (Sort.insertionSort ltV d 0 d.size)) os := by
  have hless : LessReadsK Try.prog 67 #[.pointer (some ⟨Bs, 0, none⟩)] encPw 2 ltV blk 0 d.size w :=
    lessK _ ltV blk Bs c d w hs hH hblk hne hB fun W dk hsz h1 h2 i j hi hj => less_V blk 0 c Bs d.size W (fun t => dk[t]!.V) h1 (fun t ht => (h2 t ht).1) i j hi hj (by omega)
  exact Any.sort_Slice_small_cells Try.sortSlice 42 45 sortT sortE (by kernel_rfl) (by kernel_rfl) (by kernel_rfl) (by kernel_rfl) 25 (fun _ => by kernel_rfl) encPw 2 (fun _ => rfl) (by kernel_rfl) (fun _ => by kernel_rfl)
    (fun x v hv => by simp [encPw] at hv; rcases hv with rfl | rfl <;> rfl) ltV 67 _
    (enters_of Try.func67 (by kernel_rfl) rfl) blk 0 c d h2 h12 107 (by rw [sortK _ h2]; kernel_rfl) false
    (fun args W => run_callFunc_extern Try.func107 (by kernel_rfl) (by kernel_rfl) (by kernel_rfl) (e := Extern.ReflectliteSwapper.swap false) (by kernel_rfl) args W) _ hless hH hblk

end Ytbpehnghffljiaa.Ab
end Go.Proofs
