/-
  The walk over abstract states.
-/
import Derived.Test.YtmakmlnfbdablaaGreatXAbFun
import Derived.Test.YtmakmlnfbdablaaGreatChecked
import Derived.Deep.QuietTactic
import Derived.Ground.Names2Prog
import Derived.Lib.LazyBuf
import Derived.Shelf.Abstract
import Derived.Shelf.Spec.SlicesInsertGrow
namespace Go.Proofs
open Go.Shelf Go.RowKit Go.Lib
set_option linter.unusedVariables false
set_option linter.unusedSimpArgs false
def Tryz.laysInsert_ren : Go.Shelf.Ren := ⟨fun | 21 => 125 | 27 => 142 | 28 => 143 | 35 => 153 | 39 => 173 | n => n, fun | 22 => 48 | 3 => 3 | 4 => 4 | 0 => 0 | n => n, fun | n => n⟩
theorem Tryz.laysInsert : Go.Proofs.Lays2.n21 Tryz.prog Tryz.laysInsert_ren := {
  mixed := by kernel_rfl
  f21 := Tryz.func125.trans (congrArg some (by kernel_rfl))
  f27 := Tryz.func142.trans (congrArg some (by kernel_rfl))
  f28 := Tryz.func143.trans (congrArg some (by kernel_rfl))
  f35 := Tryz.func153.trans (congrArg some (by kernel_rfl))
  f39 := Tryz.func173.trans (congrArg some (by kernel_rfl))
  t0 := Tryz.underlying0
  a0 := Tryz.isAgg0
  z0 := Tryz.sizeOf0
  v0 := Tryz.zeroValue0
  t3 := Tryz.underlying3
  a3 := Tryz.isAgg3
  z3 := Tryz.sizeOf3
  v3 := Tryz.zeroValue3
  t4 := Tryz.underlying4
  a4 := Tryz.isAgg4
  z4 := Tryz.sizeOf4
  v4 := Tryz.zeroValue4
  t22 := Tryz.underlying48
  a22 := Tryz.isAgg48
  z22 := Tryz.sizeOf48
  v22 := Tryz.zeroValue48
  i3 := by kernel_rfl }
namespace YtmakmlnfbdablaaGreat.Ab
def insP (l : List Int) (k : Int) (vs : List Int) : Option (List Int) := if 0 ≤ k ∧ k ≤ l.length ∧ 0 < vs.length ∧ (l.length + vs.length) * 8 ≤ 140737488355328 then some (l.take k.toNat ++ vs ++ l.drop k.toNat) else none
def insSp : SpecT := fun args bk id => match args with
  | [.own j, .val (.int .i64 k), .own j2] => match bk j, bk j2, bk id with
    | .rows E (.ints l), .rows _ (.ints vs), .free => if E = 3 ∧ j ≠ id ∧ j ≠ j2 then some ⟨List Int, insP l k vs, [], fun _ => .own id, fun r => [(j, .dead), (id, .rows E (.ints r))]⟩ else none
    | _, _, _ => none
  | _ => none
def zmg (l : List Int) : List Value := l.map (fun n => .int .i64 n)
theorem zaft {C : Cx} {l : List Int} {xs : List Value} (hlen : xs.length = l.length * 1) (h : ∀ k c, k < l.length → c < 1 → Rd C ((Sl.ints l).cell k c) (xs.getD (k * 1 + c) undef)) : xs = zmg l := by
  apply List.ext_getElem?
  intro t
  by_cases ht : t < l.length
  · have := h t 0 ht (by omega)
    rw [Nat.mul_one, Nat.add_zero] at this
    simp only [Sl.cell, Sl.row] at this
    have e : xs[t]? = some (xs.getD t undef) := by rw [List.getD_eq_getElem?_getD, List.getElem?_eq_getElem (by omega)]; rfl
    rw [e]
    generalize xs.getD t undef = z at this
    cases this
    rw [zmg, List.getElem?_map, List.getElem?_eq_getElem ht, List.getD_eq_getElem?_getD, List.getElem?_eq_getElem ht]; rfl
  · rw [List.getElem?_eq_none (by omega), List.getElem?_eq_none (by unfold zmg; rw [List.length_map]; omega)]
theorem zaq6 (C : Cx) (l : List Int) (k c : Nat) (hk : k < l.length) (hc : c < 1) : Rd C ((Sl.ints l).cell k c) ((zmg l).getD (k * 1 + c) undef) := by
  obtain rfl : c = 0 := by omega
  rw [Nat.mul_one, Nat.add_zero]
  have e : (zmg l).getD k undef = .int .i64 (l.getD k 0) := by
    rw [zmg, List.getD_eq_getElem?_getD, List.getElem?_map, List.getElem?_eq_getElem hk, List.getD_eq_getElem?_getD, List.getElem?_eq_getElem hk]; rfl
  rw [e]
  exact .val
theorem z12 {w : World} {b cap n : Nat} {E : TypeId} {f : Nat → Value} {xs : List Value} (h : w.rowIs b E cap f) (hn : n ≤ cap) (hc : cap ≤ maxLen) (hx : xs.length = n) (hf : ∀ t, t < n → xs[t]? = some (f t)) :
    w.ownsRow 0 E 1 (.slice (some ⟨b, 0, none⟩) n cap) n xs := by
  obtain ⟨c, h1, h2, h3⟩ := h
  refine ⟨by omega, .inr ⟨b, cap, c, rfl, Nat.zero_le _, h1, hn, hc, by omega, ?_⟩⟩
  apply List.ext_getElem?
  intro t
  by_cases ht : t < n
  · rw [List.getElem?_take_of_lt (by omega), Array.getElem?_toList, h3 t (by omega), hf t ht]
  · rw [List.getElem?_eq_none (by simp; omega), List.getElem?_eq_none (by omega)]
theorem z4s (b : Nat) : ∀ (vs : List Value) (o : Nat) (w : World), (w.setCells b o vs).heap.size = w.heap.size
  | [], _, _ => rfl
  | v :: r, o, w => by rw [World.setCells, z4s b r]; simp [World.setCell]
theorem z4t (b : Nat) : ∀ (vs : List Value) (o : Nat) (w : World), (w.setCells b o vs).tape = w.tape
  | [], _, _ => rfl
  | v :: r, o, w => by rw [World.setCells, z4t b r]; rfl
theorem zadw (b : Nat) : ∀ (vs : List Value) (o : Nat) (w : World), (w.setCells b o vs).os = w.os
  | [], _, _ => rfl
  | v :: r, o, w => by rw [World.setCells, zadw b r]; rfl
theorem zzi (b : Nat) : ∀ (vs : List Value) (o : Nat) (w : World), (w.setCells b o vs).output = w.output
  | [], _, _ => rfl
  | v :: r, o, w => by rw [World.setCells, zzi b r]; rfl
theorem z13 {b k : Nat} (hk : k ≠ b) : ∀ (vs : List Value) (o : Nat) (w : World), (w.setCells b o vs).heap[k]? = w.heap[k]?
  | [], _, _ => rfl
  | v :: r, o, w => by
    rw [World.setCells, z13 hk r]
    simp [World.setCell, Array.getElem?_modify, Ne.symm hk]
theorem zzj {w : World} (b o : Nat) (vs : List Value) : w.grownBy (w.setCells b o vs) (some b) :=
  ⟨zadw b vs o w, z4t b vs o w, zzi b vs o w, by rw [z4s]; exact Nat.le_refl _, fun k hk hne => z13 (fun e => hne (by rw [e])) vs o w⟩
theorem zhr {w w1 w2 : World} {r : Option Nat} (h1 : w.grownBy w1 r) (h2 : w1.grownBy w2 r) : w.grownBy w2 r :=
  ⟨h2.os.trans h1.os, h2.tape.trans h1.tape, h2.output.trans h1.output, Nat.le_trans h1.size h2.size, fun k hk hne => (h2.block k (Nat.lt_of_lt_of_le hk h1.size) hne).trans (h1.block k hk hne)⟩
theorem grownBy_alloc (w : World) (o : Obj) (r : Option Nat) : w.grownBy (w.alloc o) r :=
  ⟨rfl, rfl, rfl, by show _ ≤ (w.heap.push o).size; rw [Array.size_push]; omega, fun k hk _ => by show (w.heap.push o)[k]? = _; rw [Array.getElem?_push, if_neg (by omega)]⟩
theorem zna (w : World) (r : Option Nat) : w.grownBy w.drew r := ⟨rfl, rfl, rfl, Nat.le_refl _, fun _ _ _ => rfl⟩
theorem z4u {w w1 : World} {b o : Nat} {vs : List Value} {r : Option Nat} (h1 : w.grownBy w1 r) (hb : w.heap.size ≤ b) : w.grownBy (w1.setCells b o vs) r :=
  ⟨(zadw b vs o w1).trans h1.os, (z4t b vs o w1).trans h1.tape, (zzi b vs o w1).trans h1.output, by rw [z4s]; exact h1.size, fun k hk hne => (z13 (by omega) vs o w1).trans (h1.block k hk hne)⟩
theorem zaq7 {w : World} {b n G : Nat} {E : TypeId} {xs : List Value} {zs : Array Value} (hx : xs.length = n) (hz : zs.size = G - n) (hn : n ≤ G) (hG : G ≤ maxLen) (h : w.heap[b]? = some (.cells (xs.toArray ++ zs) E (0, 0))) :
    w.ownsRow 0 E 1 (.slice (some ⟨b, 0, none⟩) n G) n xs := by
  refine ⟨by omega, .inr ⟨b, G, _, rfl, Nat.zero_le _, h, hn, hG, by simp; omega, ?_⟩⟩
  rw [Nat.mul_one, Array.toList_append, List.take_append_of_le_length (by simp; omega)]
  rw [← hx]; simp
theorem zajs (n : Nat) : (Builtin.zeroCells (Value.int .i64 0).cells n).size = n := by
  rw [Builtin.zeroCells]; simp
  have : (Value.int .i64 0).cells.size = 1 := rfl
  rw [this, Nat.mul_one]
theorem zafu {w : World} {n G : Nat} {E : TypeId} {xs : List Value} (hx : xs.length = n) (hn : n ≤ G) (hG : G ≤ maxLen) :
    (w.drew.alloc (.cells (xs.toArray ++ Builtin.zeroCells (Value.int .i64 0).cells (G - n)) E)).ownsRow 0 E 1 (.slice (some ⟨w.heap.size, 0, none⟩) n G) n xs :=
  zaq7 (zs := Builtin.zeroCells (Value.int .i64 0).cells (G - n)) hx (zajs _) hn hG (by show (w.heap.push _)[w.heap.size]? = _; rw [Array.getElem?_push, if_pos rfl])
theorem zaq8 (l vs : List Value) (k t : Nat) (hk : k ≤ l.length) (ht : t < l.length + vs.length) : (l.take k ++ vs ++ l.drop k)[t]? = if t < k then l[t]? else if t < k + vs.length then vs[t - k]? else l[t - vs.length]? := by
  have hlk : (l.take k).length = k := by rw [List.length_take]; omega
  by_cases h1 : t < k
  · rw [if_pos h1, List.append_assoc, List.getElem?_append_left (by omega), List.getElem?_take_of_lt h1]
  · rw [if_neg h1]
    by_cases h2 : t < k + vs.length
    · rw [if_pos h2, List.append_assoc, List.getElem?_append_right (by omega), hlk, List.getElem?_append_left (by omega)]
    · rw [if_neg h2, List.getElem?_append_right (by rw [List.length_append]; omega), List.length_append, hlk, List.getElem?_drop]
      congr 1; omega
theorem zang (l vs : List Int) (k : Nat) : zmg (l.take k ++ vs ++ l.drop k) = (zmg l).take k ++ zmg vs ++ (zmg l).drop k := by
  unfold zmg; simp
theorem zabj (w : World) (l vs : List Int) (k : Nat) (v v3 : Value) (E3 : TypeId) (hk : k ≤ l.length) (hm : 0 < vs.length) (hbig : (l.length + vs.length) * 8 ≤ 140737488355328)
    (hown : w.ownsRow 0 3 1 v l.length (zmg l)) (hown3 : w.ownsRow 0 E3 1 v3 vs.length (zmg vs)) (hap : ∀ b, ze7 v = some b → ze7 v3 ≠ some b) :
    Calls Tryz.prog 125 #[v, .int .i64 k, v3] w fun e w' => ∃ v', e = .returned v' ∧ w'.ownsRow 0 3 1 v' (l.length + vs.length) (zmg (l.take k ++ vs ++ l.drop k)) ∧ w.grownBy w' (ze7 v) ∧
      (ze7 v' = ze7 v ∨ ∀ b, ze7 v' = some b → w.heap.size ≤ b) := by
  have h1i : ∀ l : List Int, ∀ z ∈ zmg l, z.oneCell' = true := by
    intro l z hz
    unfold zmg at hz
    rw [List.mem_map] at hz
    obtain ⟨q, _, rfl⟩ := hz
    rfl
  have hle : ∀ l : List Int, (zmg l).length = l.length := fun l => by unfold zmg; rw [List.length_map]
  have hlen : (zmg (l.take k ++ vs ++ l.drop k)).length = l.length + vs.length := by rw [hle]; simp; omega
  obtain ⟨g3, cap3, cur3, rfl, c1, c2, c3, c4, c5⟩ : ∃ g3 cap3 cur3, v3 = .slice (some ⟨g3, 0, none⟩) vs.length cap3 ∧ w.heap[g3]? = some (.cells cur3 E3 (0, 0)) ∧ vs.length ≤ cap3 ∧ cap3 ≤ maxLen ∧ cur3.size = cap3 * 1 ∧ cur3.toList.take (vs.length * 1) = zmg vs := by
    rcases hown3.2 with ⟨_, h0⟩ | ⟨g, cap, cur, q1, q2, q3, q4, q5, q6, q7⟩
    · omega
    · exact ⟨g, cap, cur, q1, q3, q4, q5, q6, q7⟩
  have hvs : ∀ j u, (zmg vs)[j]? = some u → w.cell? ⟨g3, 0 + j, none⟩ = some u := by
    intro j u hj
    have := hown3.cells (g := g3) rfl j u hj
    rwa [zag] at this
  rcases hown.2 with ⟨rfl, h0⟩ | ⟨g, cap, cur, rfl, _, q3, q4, q5, q6, q7⟩
  ·
    obtain rfl : l = [] := List.eq_nil_of_length_eq_zero h0
    obtain rfl : k = 0 := by simpa using hk
    have := Any2.slices_Insert_int_end_grow Tryz.laysInsert none 0 0 g3 0 vs.length cap3 [] (zmg vs) w hm (Nat.le_refl _) (by omega) (by simpa using hbig) rfl (hle vs) (fun _ => rfl) (fun a h => by cases h) hvs (h1i vs)
    refine this.mono ?_
    rintro e w' ⟨rfl, rfl⟩
    have g1 := grownCap_ge w (0 + vs.length) 0 3
    have g2 := grownCap_le_maxLen w (0 + vs.length) 0 3 (by unfold maxLen; simp at hbig; omega)
    refine ⟨_, rfl, ?_, zhr (zna w _) (grownBy_alloc _ _ _), .inr fun b hb => ?_⟩
    · have e1 : zmg ([].take 0 ++ vs ++ [].drop 0) = [] ++ zmg vs := by simp
      rw [e1]
      have e2 : ([] : List Int).length + vs.length = 0 + vs.length := rfl
      rw [e2]
      exact zafu (w := w) (E := 3) (by simp [hle]) g1 g2
    · simp only [ze7, Option.some.injEq] at hb; omega
  ·
    have hcs : ∀ j u, (zmg l)[j]? = some u → w.cell? ⟨g, 0 + j, none⟩ = some u := by
      intro j u hj
      have := hown.cells (g := g) rfl j u hj
      rwa [zag] at this
    have hsp : ∀ j, j < cap → (w.cell? ⟨g, 0 + j, none⟩).isSome = true := by
      intro j hj
      rw [cell_of_row w g (0 + j) cur _ (0, 0) q3, Nat.zero_add, Array.getElem?_eq_getElem (by omega)]; rfl
    have hfz : ∀ j, w.frozen? ⟨g, j, none⟩ = false := fun j => by simp [World.frozen?, show w.heap[g]? = _ from q3]
    have hrow : w.rowIs g 3 cap (fun t => cur[t]?.getD default) := ⟨cur, q3, by omega, fun t ht => by show cur[t]? = some (cur[t]?.getD default); rw [Array.getElem?_eq_getElem (by omega)]; rfl⟩
    have hcur : ∀ t, t < l.length → (zmg l)[t]? = some (cur[t]?.getD default) := by
      intro t ht
      rw [← q7, Nat.mul_one, List.getElem?_take_of_lt ht, Array.getElem?_toList, Array.getElem?_eq_getElem (by omega)]; rfl
    have hne : g3 ≠ g := fun e => hap g rfl (by rw [e]; rfl)
    have hc63 : cap ≤ 9223372036854775807 := by unfold maxLen at q5; omega
    by_cases hkl : k = l.length
    · subst hkl
      have e1 : zmg (l.take l.length ++ vs ++ l.drop l.length) = zmg l ++ zmg vs := by unfold zmg; simp
      rw [e1]
      by_cases hroom : l.length + vs.length ≤ cap
      · have := Any2.slices_Insert_int_end_room Tryz.laysInsert g 0 l.length cap g3 0 vs.length cap3 (zmg vs) w hm hroom hc63 (hle vs) (fun j hj => by rw [Nat.add_assoc]; exact hsp _ (by omega)) (fun j hj => hfz _) hvs (h1i vs)
        refine this.mono ?_
        rintro e w' ⟨rfl, rfl⟩
        refine ⟨_, rfl, ?_, zzj g _ _, .inl rfl⟩
        refine z12 (rowIs_setCells (zmg vs) (0 + l.length) w _ hrow) hroom q5 (by rw [List.length_append, hle, hle]) (fun t ht => ?_)
        by_cases h1 : t < l.length
        · rw [List.getElem?_append_left (by rw [hle]; exact h1), if_neg (by omega), hcur t h1]
        · rw [List.getElem?_append_right (by rw [hle]; omega), hle, if_pos (by rw [hle]; omega), Nat.zero_add, List.getElem?_eq_getElem (by rw [hle]; omega)]; rfl
      · have := Any2.slices_Insert_int_end_grow Tryz.laysInsert (some ⟨g, 0, none⟩) l.length cap g3 0 vs.length cap3 (zmg l) (zmg vs) w hm q4 (by omega) hbig (hle l) (hle vs) (fun h => by cases h)
          (fun a ha j u hj => by cases ha; rw [zag]; exact hcs j u hj) hvs (h1i vs)
        refine this.mono ?_
        rintro e w' ⟨rfl, rfl⟩
        have g1 := grownCap_ge w (l.length + vs.length) cap 3
        have g2 := grownCap_le_maxLen w (l.length + vs.length) cap 3 (by unfold maxLen; omega)
        refine ⟨_, rfl, ?_, zhr (zna w _) (grownBy_alloc _ _ _), .inr fun b hb => ?_⟩
        · exact zafu (w := w) (E := 3) (by rw [List.length_append, hle, hle]) g1 g2
        · simp only [ze7, Option.some.injEq] at hb; omega
    · have hlt : k < l.length := by omega
      have hget : ∀ t, t < l.length + vs.length → (zmg (l.take k ++ vs ++ l.drop k))[t]? = if t < k then (zmg l)[t]? else if t < k + vs.length then (zmg vs)[t - k]? else (zmg l)[t - vs.length]? := by
        intro t ht
        have := zaq8 (zmg l) (zmg vs) k t (by rw [hle]; exact hk) (by rw [hle, hle]; exact ht)
        rw [hle] at this
        rw [zang, this]
      by_cases hroom : l.length + vs.length ≤ cap
      · have := Any2.slices_Insert_int_shift Tryz.laysInsert g 0 l.length cap k g3 0 vs.length cap3 (zmg l) (zmg vs) w hlt hm hroom hc63 hne (hle l) (hle vs) hcs (fun j hj => hsp j (by omega)) (fun j hj => hfz _) hvs (h1i l) (h1i vs)
          E3 3 cap3 cap (by simp [World.shape?, show w.heap[g3]? = _ from c1]; omega) (by simp [World.shape?, show w.heap[g]? = _ from q3]; omega) (by omega) (by simp [World.frozen?, show w.heap[g3]? = _ from c1]) (by simp [World.frozen?, show w.heap[g3]? = _ from c1])
        refine this.mono ?_
        rintro e w' ⟨rfl, rfl⟩
        refine ⟨_, rfl, ?_, zhr (zna w _) (zhr (zzj g _ _) (zzj g _ _)), .inl rfl⟩
        refine z12 (rowIs_setCells (zmg vs) (0 + k) _ _ (rowIs_setCells ((zmg l).drop k) (0 + (k + vs.length)) w.drew _ hrow)) hroom q5 hlen (fun t ht => ?_)
        rw [hget t ht]
        simp only [Nat.zero_add]
        by_cases h1 : t < k
        · rw [if_pos h1, if_neg (by omega), if_neg (by omega), hcur t (by omega)]
        · rw [if_neg h1]
          by_cases h2 : t < k + vs.length
          · rw [if_pos h2, if_pos (by rw [hle]; omega), List.getElem?_eq_getElem (by rw [hle]; omega)]; rfl
          · rw [if_neg h2, if_neg (by rw [hle]; omega), if_pos (by rw [List.length_drop, hle]; omega), List.getElem?_drop, show k + (t - (k + vs.length)) = t - vs.length by omega, hcur _ (by omega)]; rfl
      · have := Any2.slices_Insert_int_grow Tryz.laysInsert g 0 l.length cap k g3 0 vs.length cap3 (zmg l) (zmg vs) w hlt hm q4 (by omega) hbig (hle l) (hle vs) hcs hvs (h1i l) (h1i vs)
        refine this.mono ?_
        rintro e w' ⟨rfl, rfl⟩
        have g1 := grownCap_ge w (l.length + vs.length) cap 3
        have g2 := grownCap_le_maxLen w (l.length + vs.length) cap 3 (by unfold maxLen; omega)
        refine ⟨_, rfl, ?_, z4u (zhr (z4u (zhr (grownBy_alloc w _ _) (zna _ _)) (Nat.le_refl _)) (zna _ _)) (Nat.le_refl _), .inr fun b hb => ?_⟩
        · obtain ⟨A, hA⟩ : ∃ A : Array Value, A = ((zmg l).take k).toArray ++ Builtin.zeroCells (Value.int .i64 0).cells (l.length + vs.length - k) ++ Builtin.zeroCells (Value.int .i64 0).cells (grownCap w (l.length + vs.length) cap 3 - (l.length + vs.length)) := ⟨_, rfl⟩
          have hz := zajs
          have hAs : A.size = grownCap w (l.length + vs.length) cap 3 := by
            rw [hA, Array.size_append, Array.size_append, hz, hz, List.size_toArray, List.length_take, hle]; omega
          have hrowA : (w.alloc (.cells A 3)).drew.rowIs w.heap.size 3 (grownCap w (l.length + vs.length) cap 3) (fun t => A[t]?.getD default) :=
            ⟨A, by show (w.heap.push _)[w.heap.size]? = _; rw [Array.getElem?_push, if_pos rfl], hAs, fun t ht => by show A[t]? = some (A[t]?.getD default); rw [Array.getElem?_eq_getElem (by omega)]; rfl⟩
          refine Eq.mp (congrArg (fun A : Array Value => World.ownsRow (((((w.alloc (.cells A 3)).drew.setCells w.heap.size k (zmg vs)).drew).setCells w.heap.size (k + vs.length) ((zmg l).drop k))) 0 3 1 (.slice (some ⟨w.heap.size, 0, none⟩) (l.length + vs.length) (grownCap w (l.length + vs.length) cap 3)) (l.length + vs.length) (zmg (l.take k ++ vs ++ l.drop k))) hA) ?_
          refine z12 (rowIs_setCells ((zmg l).drop k) (k + vs.length) _ _ (rowIs_setCells (zmg vs) k _ _ hrowA)) g1 g2 hlen (fun t ht => ?_)
          rw [hget t ht]
          by_cases h1 : t < k
          · rw [if_pos h1, if_neg (by omega), if_neg (by omega), hA, Array.append_assoc, Array.getElem?_append_left (by rw [List.size_toArray, List.length_take, hle]; omega)]
            have : ((zmg l).take k).toArray[t]? = (zmg l)[t]? := by rw [List.getElem?_toArray, List.getElem?_take_of_lt h1]
            rw [this, hcur t (by omega)]; rfl
          · rw [if_neg h1]
            by_cases h2 : t < k + vs.length
            · rw [if_pos h2, if_neg (by omega), if_pos (by rw [hle]; omega), List.getElem?_eq_getElem (by rw [hle]; omega)]; rfl
            · rw [if_neg h2, if_pos (by rw [List.length_drop, hle]; omega), List.getElem?_drop, show k + (t - (k + vs.length)) = t - vs.length by omega, hcur _ (by omega)]; rfl
        · simp only [ze7, Option.some.injEq] at hb; omega
theorem zajt : zi Tryz.prog 125 insSp.spec := by
  intro G blks nu w hm args vs hvs bk hbk id r hr hobl
  unfold SpecT.spec at hr
  split at hr
  · rename_i cr hcr
    simp only [Option.some.injEq] at hr
    subst hr
    unfold insSp at hcr
    split at hcr
    · rename_i j k j2
      split at hcr
      · rename_i E l E3 xs hbj hbj2 hbid
        split at hcr
        · rename_i hc
          obtain ⟨rfl, hjid, hj2⟩ := hc
          simp only [Option.some.injEq] at hcr
          subst hcr
          have hP : 0 ≤ k ∧ k ≤ l.length ∧ 0 < xs.length ∧ (l.length + xs.length) * 8 ≤ 140737488355328 := by
            have := hobl.1
            simp only [CR.res] at this
            unfold insP at this
            split at this
            · assumption
            · cases this
          obtain ⟨p1, p2, p3, p4⟩ := hP
          have hbj' := zkh hbk hbj (by simp)
          have hbj2' := zkh hbk hbj2 (by simp)
          have hbid' := zkh hbk hbid (by simp)
          obtain ⟨v1, vs1, rfl, r1, hvs1⟩ := hvs.uncons
          obtain ⟨v2, vs2, rfl, r2, hvs2⟩ := hvs1.uncons
          obtain ⟨v3, vs3, rfl, r3, hvs3⟩ := hvs2.uncons
          obtain rfl := hvs3.unnil
          have hkj := hm.ok j
          rw [hbj'] at hkj
          obtain ⟨v, zs, e1, e2, e3, e4⟩ := hkj
          have hkj2 := hm.ok j2
          rw [hbj2'] at hkj2
          obtain ⟨u, ys, f1, f2, f3, f4⟩ := hkj2
          have hv : v1 = v := by
            cases r1 with
            | own hn => exact Option.some.inj (hn.symm.trans e1)
          have hu : v3 = u := by
            cases r3 with
            | own hn => exact Option.some.inj (hn.symm.trans f1)
          subst hv; subst hu
          cases r2
          have hz := zaft e2.1 e3
          have hy := zaft f2.1 f3
          subst hz; subst hy
          have hap : ∀ b, ze7 v1 = some b → ze7 v3 ≠ some b := fun b hb => hm.apart j j2 v1 v3 b hj2 (by rw [hbj']; rfl) (by rw [hbj2']; rfl) e1 f1 hb
          have hcalls := zabj w l xs k.toNat v1 v3 E3 (by omega) p3 p4 e2 f2 hap
          have hk : (k.toNat : Int) = k := by omega
          rw [hk] at hcalls
          refine hcalls.mono ?_
          rintro e w' ⟨v', rfl, h1, h2, h3⟩
          refine ⟨_, rfl, ?_⟩
          have hres : CR.res ⟨List Int, insP l k xs, [], fun _ => .own id, fun r => [(j, .dead), (id, .rows 3 (.ints r))]⟩ = ⟨[(insP l k xs).isSome = true], .own id, [(j, .dead), (id, .rows 3 (.ints (l.take k.toNat ++ xs ++ l.drop k.toNat)))]⟩ := by
            have e : insP l k xs = some (l.take k.toNat ++ xs ++ l.drop k.toNat) := by unfold insP; rw [if_pos ⟨p1, p2, p3, p4⟩]
            simp only [CR.res, e, Option.getD_some]
          rw [hres]
          have hjl : j < blks.length := by
            rcases Nat.lt_or_ge j blks.length with q | q
            · exact q
            · rw [List.getD_eq_getElem?_getD, List.getElem?_eq_none q] at hbj'; cases hbj'
          have hlen : (Sl.ints (l.take k.toNat ++ xs ++ l.drop k.toNat)).len = l.length + xs.length := by
            show (l.take k.toNat ++ xs ++ l.drop k.toNat).length = _
            simp; omega
          obtain ⟨nu', m1, m2, m3⟩ := hm.putRow (blks1 := blks.set j .dead) (w' := w') (id := id) (E := 3) (s := .ints (l.take k.toNat ++ xs ++ l.drop k.toNat)) (v := v') (old := some j) (row := ze7 v1) hbid' (by simp)
            (fun i hi hne => getD_set_ne (fun e => hne (by rw [e]))) (fun i hi => by cases hi; exact ⟨hjid, zz hjl, by rw [hbj']; rfl⟩)
            (by rw [hlen]; exact h1) (by rw [hlen]; unfold maxLen; omega) (fun C' _ q c hq hc => zaq6 C' _ q c hq hc) h2 (fun b hb => ⟨j, v1, rfl, e1, hb⟩) h3
          exact ⟨nu', by simpa [upd] using m1, by simpa [upd] using m2, .own m3⟩
        · cases hcr
      · cases hcr
    · cases hcr
  · cases hr
def insSpP : SpecT := fun args bk id => match args with
  | [.own j, .val (.int .i64 k), .own j2] => match bk j, bk j2, bk id with
    | .rows E (.ints l), .rows _ (.ints vs), .free => if E = 3 ∧ j ≠ id ∧ j ≠ j2 then some ⟨List Int, insP l k vs, [], fun r => .sl (.ints r), fun r => [(j, .dead), (id, .pub (.ints r))]⟩ else none
    | _, _, _ => none
  | _ => none
theorem zahp : zi Tryz.prog 125 insSpP.spec := by
  intro G blks nu w hm args vs hvs bk hbk id r hr hobl
  unfold SpecT.spec at hr
  split at hr
  · rename_i cr hcr
    simp only [Option.some.injEq] at hr
    subst hr
    unfold insSpP at hcr
    split at hcr
    · rename_i j k j2
      split at hcr
      · rename_i E l E3 xs hbj hbj2 hbid
        split at hcr
        · rename_i hc
          simp only [Option.some.injEq] at hcr
          subst hcr
          have h1 : insSp.spec [.own j, .val (.int .i64 k), .own j2] bk id = some (CR.res ⟨List Int, insP l k xs, [], fun _ => .own id, fun r => [(j, .dead), (id, .rows E (.ints r))]⟩) := by
            unfold SpecT.spec insSp
            simp only [hbj, hbj2, hbid, if_pos hc]
          have hbid' := zkh hbk hbid (by simp)
          have hid : id < blks.length := by
            rcases Nat.lt_or_ge id blks.length with q | q
            · exact q
            · rw [List.getD_eq_getElem?_getD, List.getElem?_eq_none q] at hbid'; cases hbid'
          unfold CR.res at hobl ⊢
          unfold CR.res at h1
          cases hp : insP l k xs with
          | none => rw [hp] at hobl; exact absurd hobl.1 (by simp)
          | some z =>
            rw [hp] at hobl h1
            refine (zajt G blks nu w hm _ _ hvs bk hbk id _ h1 hobl).mono ?_
            rintro x w' ⟨v, rfl, nu', le, m, rd⟩
            refine ⟨v, rfl, ?_⟩
            simp only [Option.getD_some] at m rd ⊢
            obtain ⟨m1, le1⟩ := zavn m (j := id) (E := E) (s := .ints z) (by simp only [upd]; exact zz (by rw [List.length_set]; exact hid))
            have e : (upd blks [(j, .dead), (id, .rows E (.ints z))]).set id (.pub (.ints z)) = upd blks [(j, .dead), (id, .pub (.ints z))] := by simp [upd]
            rw [e] at m1 le1
            exact ⟨nu', le.trans le1, m1, zagh m1 (j := id) (by simp only [upd]; exact zz (by rw [List.length_set]; exact hid)) (rd.mono le1)⟩
        · cases hcr
      · cases hcr
    · cases hcr
  · cases hr
noncomputable def F_slices_Insert_int : SpecT := insSpP
theorem zx3 : zi Tryz.prog 125 F_slices_Insert_int.spec := zahp
noncomputable def zca (l : List Int) (k : Int) (vs : List Int) : Option (List Int) := insP l k vs
end YtmakmlnfbdablaaGreat.Ab
end Go.Proofs
