/-
  The functions, each by its tree.
-/
import Derived.Test.YtmakmlnfbdablaaGreatXAbFun
import Derived.Test.YtmakmlnfbdablaaGreatXAbStructs
import Derived.Test.YtmakmlnfbdablaaGreatXFBank
import Derived.Test.YtmakmlnfbdablaaGreatXFCodec
import Derived.Test.YtmakmlnfbdablaaGreatXFCons
import Derived.Test.YtmakmlnfbdablaaGreatXFLine
import Derived.Test.YtmakmlnfbdablaaGreatXFProv
import Derived.Test.YtmakmlnfbdablaaGreatXFStakeA
import Derived.Test.YtmakmlnfbdablaaGreatXFStakeB
import Derived.Test.YtmakmlnfbdablaaGreatXFWld
import Derived.Test.YtmakmlnfbdablaaGreatXFacts
namespace Go.Proofs.YtmakmlnfbdablaaGreat.Ab
open Go Go.RowKit
set_option maxRecDepth 100000
set_option linter.unusedVariables false
set_option linter.unusedSimpArgs false
noncomputable section
noncomputable def za9j : Code := Tryz.f15.body.getD .skip
def za9k : List (List Nat) := [[], [1], [1, 8], [0], [1, 2], [1, 2, 3], [1, 2, 3, 4], [1, 2, 3, 4, 5], [0]]
noncomputable def za9l : EnvT := ⟨Tryz.prog, zr [(43, zud), (29, zjs), (40, zqg), (23, zg1)]⟩
theorem za9m : (za9l).Ok := ze ⟨zw0, zma, zx9, zli, trivial⟩
def za9n : Ann := ⟨[], [], [[1, 0, 1, 1]], za9k, []⟩
def zue  : Tr (Bool) :=
  (.bind (zno) fun v1 =>
  (.bind (zbj (⟨1, 0, 0, 0, 700, false, false⟩ : Deed) v1) fun v2 =>
  (.bind (zbj (⟨5, 0, 0, 0, 5, false, false⟩ : Deed) v2.2) fun v3 =>
  (.bind (zbj (⟨6, 0, 0, 0, 0, false, false⟩ : Deed) v3.2) fun v4 =>
  (.bind (zbj (⟨4, 0, 0, 0, 0, false, false⟩ : Deed) v4.2) fun v5 =>
  (.ite ((((v2.1.Code == 0) && (v3.1.N == 5)) && (v4.1.Code == 0)) && (v5.1.N == 1))
    (.bind (ziv v5.2) fun v6 =>
    (.ite ((true : Bool) && (v6.1 == 5))
      (.bind (zbi 0 v6.2) fun v7 =>
      (.leaf ((true : Bool) && (((v7.1.Set.length : Nat) : Int) == 1))))
      (.ite ((false : Bool))
        .fail
        (.ite ((false : Bool))
          .fail
          (.ite ((false : Bool))
            .fail
            (.ite ((false : Bool))
              .fail
              (.leaf (false : Bool))))))))
    (.ite ((false : Bool))
      .fail
      (.ite ((false : Bool))
        .fail
        (.ite ((false : Bool))
          (.bind (zbi 0 v5.2) fun v6 =>
          (.leaf ((true : Bool) && (((v6.1.Set.length : Nat) : Int) == 1))))
          (.ite ((false : Bool))
            .fail
            (.ite ((false : Bool))
              .fail
              (.ite ((false : Bool))
                .fail
                (.ite ((false : Bool))
                  .fail
                  (.leaf (false : Bool)))))))))))))))
def zrs  : Option (Bool) := (zue ).run
def zax4 : LQ (Unit) := LQ.nil
def z3i : LQ (Bool) := (Par.q boolP)
def zz2 : SpecT := zv 0 zax4 0 [] (fun s => zue ) default z3i 1 []
theorem z3j : zi Tryz.prog 15 (zz2).spec :=
  zf (A := za9n) za9m Facts.mix Tryz.func15 (c := za9j) (by kernel_rfl) (Lc := 0) trivial zax4 0 7 [] (fun s => zue ) default z3i 1 [] [] (by decide) (by kernel_rfl) (by rfl) (by decide) (by decide) (by rfl)
    (by rintro _; kernel_rfl)
noncomputable def zati : Code := Tryz.f38.body.getD .skip
def zax5 : List (List Nat) := [[0, 1], [0, 1, 10], [4], [0, 1, 5], [0, 1, 5, 14], [0, 1, 5], [0, 1, 5, 25], [4], [4]]
noncomputable def zax6 : EnvT := ⟨Tryz.prog, zr []⟩
theorem zax7 : (zax6).Ok := ze trivial
def zd8 (x0 : (List Power)) (x1 : (List Power)) (x2 : Int) : Tr (((List Power) × (List Power) × Int) ⊕ ((Bool) ⊕ (Unit))) :=
  (.ite (decide (x2 < ((x0.length : Nat) : Int)))
    (.guard ((0 : Int) ≤ x2 ∧ x2 < ((Sl.len (.powers x0) : Nat) : Int))
    (.guard ((0 : Int) ≤ x2 ∧ x2 < ((Sl.len (.powers x1) : Nat) : Int))
    (.ite (!(((x0.getD x2.toNat default).V == (x1.getD x2.toNat default).V) && (((x0.getD x2.toNat default).N == (x1.getD x2.toNat default).N) && true)))
      (.leaf (.inr (.inl false)))
      (.leaf (.inl (x0, x1, IntKind.i64.wrap (x2 + 1)))))))
    (.leaf (.inr (.inr ()))))
def ziw (x0 : (List Power)) (x1 : (List Power)) (x2 : Int) : Option ((Bool) ⊕ (Unit)) := zeh (fun s : (List Power) × (List Power) × Int => (zd8 s.1 s.2.1 s.2.2).run) (x0, x1, x2)
def zax8 : Ann := ⟨[], [], [], zax5, []⟩
def zax9 : EndD ((List Power) × (List Power) × Int) := ⟨(LQ.seq (Par.q zm) (LQ.seq (Par.q zm) (Par.q intP))), ⟨[0, 1, 5], [.pub 0, .nilsl 0 (.powers []), .pub 1, .nilsl 1 (.powers [])]⟩, []⟩
def zanz : EndD (Bool) := ⟨(Par.q boolP), ⟨[4], []⟩, []⟩
def zan0 : EndD (Unit) := ⟨LQ.nil, ⟨[], []⟩, []⟩
def zaqq : St → Option LR := L2 26 2 0 zax9 .ret zanz (.exit 0) zan0 (fun s => zd8 s.1 s.2.1 s.2.2)
theorem zaya : zq (zax6).env 0 (sub zati [0, 1, 0, 1, 1]) zaqq :=
  zn2 (A := zax8) zax7 Facts.mix trivial (k := zci (sub zati [0, 1, 0, 1, 1])) (by kernel_rfl) rfl rfl (by rintro ⟨x0, x1, x2⟩; kernel_rfl)
def za9o : Ann := ⟨[([0, 1, 0, 1, 1], zaqq)], [], [], zax5, []⟩
def zjt (a0 : (List Power)) (a1 : (List Power)) : Tr (Bool) :=
  (.ite (((a0.length : Nat) : Int) != ((a1.length : Nat) : Int))
    (.leaf false)
    (.two (ziw a0 a1 0) (fun v1 =>
      (.leaf v1)) (fun v2 =>
      (.leaf true))))
def zcp (a0 : (List Power)) (a1 : (List Power)) : Option (Bool) := (zjt a0 a1).run
def zayb : LQ ((List Power) × (List Power)) := (LQ.seq (Par.q zm) (Par.q zm))
def zta : LQ (Bool) := (Par.q boolP)
def zvb : SpecT := zv 0 zayb 2 [] (fun s => zjt s.1 s.2) default zta 1 []
theorem z2d : zi Tryz.prog 38 (zvb).spec :=
  zf (A := za9o) zax7 Facts.mix Tryz.func38 (c := zati) (by kernel_rfl) (Lc := 0) ⟨zaya, trivial⟩ zayb 2 2 [] (fun s => zjt s.1 s.2) default zta 1 [] [] (by decide) (by kernel_rfl) (by rfl) (by decide) (by decide) (by rfl)
    (by rintro ⟨a0, a1⟩; kernel_rfl)
noncomputable def zakx : Code := Tryz.f30.body.getD .skip
def zatj : List (List Nat) := [[0, 3, 5, 6], [3, 5, 6, 8], [3, 5, 6, 8, 17, 18], [3, 5, 6, 8, 17, 18, 19], [3, 5, 6, 8, 9, 10, 17, 18], [3, 5, 6, 8, 9, 10, 17, 18, 59], [7], [3, 5, 6, 8, 9, 10, 17, 18, 67], [3, 5, 6, 8, 9, 10, 17, 18, 69, 70, 71], [3, 5, 6, 8, 9, 10, 17, 18, 69, 70, 71, 72], [3, 5, 6, 8, 9, 10, 12, 17, 18, 69, 70, 71], [3, 5, 6, 8, 9, 10, 17, 18, 69, 70, 71, 82], [7], [3, 5, 6, 8, 9, 10, 17, 18, 69, 70, 71], [3, 5, 6, 8, 17, 18], [], [7]]
noncomputable def zatk : EnvT := ⟨Tryz.prog, zr [(19, zg0)]⟩
theorem zatl : (zatk).Ok := ze ⟨zlg, trivial⟩
def ze2 (x0 : Int) (x1 : (A6 zd)) (x2 : Int) (x3 : (List Power)) (x4 : Int) (x5 : Int) (x6 : Wld) (x7 : (A6 zd)) (x8 : Deed) (x9 : Reply) (x10 : za) (x11 : zd) : Tr ((Int × (A6 zd) × Int × (List Power) × Int × Int × Wld × (A6 zd) × Deed × Reply × za × zd) ⊕ ((Bool × Wld × (A6 zd)) ⊕ ((A6 zd) × Int × Wld × (A6 zd) × Deed × Reply × za))) :=
  (.ite (decide (x5 < x4))
    (.guard ((0 : Int) ≤ x5 ∧ x5 < ((Sl.len (.powers x3) : Nat) : Int))
    (.ite (((x3.getD x5.toNat default).V == x0) && x11.Jailed)
      (.leaf (.inr (.inl (false, x6, x7))))
      (.leaf (.inl (x0, x1, x2, x3, x4, IntKind.i64.wrap (x5 + 1), x6, x7, x8, x9, x10, x11)))))
    (.leaf (.inr (.inr (x1, x2, x6, x7, x8, x9, x10)))))
def zj2 (x0 : Int) (x1 : (A6 zd)) (x2 : Int) (x3 : (List Power)) (x4 : Int) (x5 : Int) (x6 : Wld) (x7 : (A6 zd)) (x8 : Deed) (x9 : Reply) (x10 : za) (x11 : zd) : Option ((Bool × Wld × (A6 zd)) ⊕ ((A6 zd) × Int × Wld × (A6 zd) × Deed × Reply × za)) := zeh (fun s : Int × (A6 zd) × Int × (List Power) × Int × Int × Wld × (A6 zd) × Deed × Reply × za × zd => (ze2 s.1 s.2.1 s.2.2.1 s.2.2.2.1 s.2.2.2.2.1 s.2.2.2.2.2.1 s.2.2.2.2.2.2.1 s.2.2.2.2.2.2.2.1 s.2.2.2.2.2.2.2.2.1 s.2.2.2.2.2.2.2.2.2.1 s.2.2.2.2.2.2.2.2.2.2.1 s.2.2.2.2.2.2.2.2.2.2.2).run) (x0, x1, x2, x3, x4, x5, x6, x7, x8, x9, x10, x11)
def zayc : Ann := ⟨[], [], [], zatj, []⟩
def zayd : EndD (Int × (A6 zd) × Int × (List Power) × Int × Int × Wld × (A6 zd) × Deed × Reply × za × zd) := ⟨(LQ.skip (LQ.const (.ptr 1 0)) (LQ.skip (LQ.const (.ptr 2 0)) (LQ.skip (LQ.const (.ptr 3 0)) (LQ.skip (LQ.const (.ptr 4 0)) (LQ.seq (Par.q intP) (LQ.skip (LQ.const (.ptr 5 0)) (LQ.seq (Par.q (Par.ofLP (a6L zaf))) (LQ.seq (Par.q intP) (LQ.seq (Par.q zm) (LQ.seq (Par.q intP) (LQ.seq (Par.q intP) (LQ.seq (LP.q zn0) (LQ.seq (LP.q (a6L zaf)) (LQ.seq (LP.q deedL) (LQ.seq (LP.q zus) (LQ.seq (LP.q providerL) (LP.q zaf))))))))))))))))), ⟨[3, 5, 6, 8, 9, 10, 17, 18, 69, 70, 71], [.pub 69, .nilsl 69 (.powers [])]⟩, [.cells 109 159, .cells 41 30, .cells 35 7, .cells 29 2, .cells 61 97, .cells 40 5]⟩
def zan1 : EndD (Bool × Wld × (A6 zd)) := ⟨(LQ.seq (Par.q boolP) (LQ.seq (LP.q zn0) (LP.q (a6L zaf)))), ⟨[7], []⟩, [.cells 109 159, .cells 41 30]⟩
def zan2 : EndD ((A6 zd) × Int × Wld × (A6 zd) × Deed × Reply × za) := ⟨(LQ.skip (LQ.const (.ptr 1 0)) (LQ.skip (LQ.const (.ptr 2 0)) (LQ.skip (LQ.const (.ptr 3 0)) (LQ.skip (LQ.const (.ptr 4 0)) (LQ.seq (Par.q (Par.ofLP (a6L zaf))) (LQ.seq (Par.q intP) (LQ.seq (LP.q zn0) (LQ.seq (LP.q (a6L zaf)) (LQ.seq (LP.q deedL) (LQ.seq (LP.q zus) (LP.q providerL))))))))))), ⟨[3, 5, 6, 8, 17, 18], []⟩, [.cells 109 159, .cells 41 30, .cells 35 7, .cells 29 2, .cells 61 97]⟩
def zaqr : St → Option LR := L2 88 9 2 zayd .ret zan1 (.exit 2) zan2 (fun s => ze2 s.1 s.2.1 s.2.2.1 s.2.2.2.1 s.2.2.2.2.1 s.2.2.2.2.2.1 s.2.2.2.2.2.2.1 s.2.2.2.2.2.2.2.1 s.2.2.2.2.2.2.2.2.1 s.2.2.2.2.2.2.2.2.2.1 s.2.2.2.2.2.2.2.2.2.2.1 s.2.2.2.2.2.2.2.2.2.2.2)
theorem zaye : zq (zatk).env 2 (sub zakx [0, 1, 0, 1, 1, 1, 0, 0, 1, 1, 0, 0, 1, 0, 1, 1]) zaqr :=
  zn2 (A := zayc) zatl Facts.mix trivial (k := zci (sub zakx [0, 1, 0, 1, 1, 1, 0, 0, 1, 1, 0, 0, 1, 0, 1, 1])) (by kernel_rfl) rfl rfl (by rintro ⟨x0, x1, x2, x3, x4, x5, x6, x7, x8, x9, x10, x11⟩; kernel_rfl)
def zdo (x0 : (A6 zd)) (x1 : Int) (x2 : Wld) (x3 : (A6 zd)) (x4 : Deed) (x5 : Reply) (x6 : za) : Tr (((A6 zd) × Int × Wld × (A6 zd) × Deed × Reply × za) ⊕ ((Bool × Wld × (A6 zd)) ⊕ (Wld × (A6 zd) × za))) :=
  (.ite (decide (x1 < 6))
    (.guard ((0 : Int) ≤ x1 ∧ (x1 : Int) < 6)
    (.guard ((0 : Int) ≤ x1 ∧ (x1 : Int) < 6)
    (.guard ((((A6.get ⟨x3.x0.Dead, x3.x1.Dead, x3.x2.Dead, x3.x3.Dead, x3.x4.Dead, x3.x5.Dead⟩ x1) && (!(A6.get ⟨x0.x0.Dead, x0.x1.Dead, x0.x2.Dead, x0.x3.Dead, x0.x4.Dead, x0.x5.Dead⟩ x1))) = false → ((0 : Int) ≤ x1 ∧ (x1 : Int) < 6) ∧ True))
    (.guard (((((A6.get ⟨x3.x0.Dead, x3.x1.Dead, x3.x2.Dead, x3.x3.Dead, x3.x4.Dead, x3.x5.Dead⟩ x1) && (!(A6.get ⟨x0.x0.Dead, x0.x1.Dead, x0.x2.Dead, x0.x3.Dead, x0.x4.Dead, x0.x5.Dead⟩ x1))) || (decide ((A6.get ⟨x0.x0.Lost, x0.x1.Lost, x0.x2.Lost, x0.x3.Lost, x0.x4.Lost, x0.x5.Lost⟩ x1) < (A6.get ⟨x3.x0.Lost, x3.x1.Lost, x3.x2.Lost, x3.x3.Lost, x3.x4.Lost, x3.x5.Lost⟩ x1)))) = false → ((0 : Int) ≤ x1 ∧ (x1 : Int) < 6) ∧ True))
    (.guard (((decide ((A6.get ⟨x0.x0.Lost, x0.x1.Lost, x0.x2.Lost, x0.x3.Lost, x0.x4.Lost, x0.x5.Lost⟩ x1) > (A6.get ⟨x3.x0.Lost, x3.x1.Lost, x3.x2.Lost, x3.x3.Lost, x3.x4.Lost, x3.x5.Lost⟩ x1))) = true → ((((A6.get ⟨x3.x0.Dead, x3.x1.Dead, x3.x2.Dead, x3.x3.Dead, x3.x4.Dead, x3.x5.Dead⟩ x1) && (!(A6.get ⟨x0.x0.Dead, x0.x1.Dead, x0.x2.Dead, x0.x3.Dead, x0.x4.Dead, x0.x5.Dead⟩ x1))) || (decide ((A6.get ⟨x0.x0.Lost, x0.x1.Lost, x0.x2.Lost, x0.x3.Lost, x0.x4.Lost, x0.x5.Lost⟩ x1) < (A6.get ⟨x3.x0.Lost, x3.x1.Lost, x3.x2.Lost, x3.x3.Lost, x3.x4.Lost, x3.x5.Lost⟩ x1)))) = false → ((0 : Int) ≤ x1 ∧ (x1 : Int) < 6) ∧ True)))
    (.ite ((((A6.get ⟨x3.x0.Dead, x3.x1.Dead, x3.x2.Dead, x3.x3.Dead, x3.x4.Dead, x3.x5.Dead⟩ x1) && (!(A6.get ⟨x0.x0.Dead, x0.x1.Dead, x0.x2.Dead, x0.x3.Dead, x0.x4.Dead, x0.x5.Dead⟩ x1))) || (decide ((A6.get ⟨x0.x0.Lost, x0.x1.Lost, x0.x2.Lost, x0.x3.Lost, x0.x4.Lost, x0.x5.Lost⟩ x1) < (A6.get ⟨x3.x0.Lost, x3.x1.Lost, x3.x2.Lost, x3.x3.Lost, x3.x4.Lost, x3.x5.Lost⟩ x1)))) || ((decide ((A6.get ⟨x0.x0.Lost, x0.x1.Lost, x0.x2.Lost, x0.x3.Lost, x0.x4.Lost, x0.x5.Lost⟩ x1) > (A6.get ⟨x3.x0.Lost, x3.x1.Lost, x3.x2.Lost, x3.x3.Lost, x3.x4.Lost, x3.x5.Lost⟩ x1))) && ((A6.get ⟨x3.x0.Dead, x3.x1.Dead, x3.x2.Dead, x3.x3.Dead, x3.x4.Dead, x3.x5.Dead⟩ x1) || (!(A6.get ⟨x0.x0.Dead, x0.x1.Dead, x0.x2.Dead, x0.x3.Dead, x0.x4.Dead, x0.x5.Dead⟩ x1)))))
      (.leaf (.inr (.inl (false, x2, x3))))
      (.ite ((x4.Kind == 6) && (x5.Code == 0))
        (.two (zj2 x1 x0 x1 x6.Set ((x6.Set.length : Nat) : Int) 0 x2 x3 x4 x5 x6 (⟨A6.get ⟨x0.x0.Tokens, x0.x1.Tokens, x0.x2.Tokens, x0.x3.Tokens, x0.x4.Tokens, x0.x5.Tokens⟩ x1, A6.get ⟨x0.x0.Shares, x0.x1.Shares, x0.x2.Shares, x0.x3.Shares, x0.x4.Shares, x0.x5.Shares⟩ x1, A6.get ⟨x0.x0.Lost, x0.x1.Lost, x0.x2.Lost, x0.x3.Lost, x0.x4.Lost, x0.x5.Lost⟩ x1, A6.get ⟨x0.x0.Jailed, x0.x1.Jailed, x0.x2.Jailed, x0.x3.Jailed, x0.x4.Jailed, x0.x5.Jailed⟩ x1, A6.get ⟨x0.x0.Dead, x0.x1.Dead, x0.x2.Dead, x0.x3.Dead, x0.x4.Dead, x0.x5.Dead⟩ x1⟩ : zd)) (fun v2 =>
          (.leaf (.inr (.inl (v2.1, v2.2.1, v2.2.2))))) (fun v3 =>
          (.leaf (.inl (v3.1, IntKind.i64.wrap (v3.2.1 + 1), v3.2.2.1, v3.2.2.2.1, v3.2.2.2.2.1, v3.2.2.2.2.2.1, v3.2.2.2.2.2.2)))))
        (.leaf (.inl (x0, IntKind.i64.wrap (x1 + 1), x2, x3, x4, x5, (⟨x6.Height, x6.Time, x6.Stake, x6.Set, x6.Links, x6.Meter, x6.Queue⟩ : za)))))))))))
    (.leaf (.inr (.inr (x2, x3, (⟨x6.Height, x6.Time, x6.Stake, x6.Set, x6.Links, x6.Meter, x6.Queue⟩ : za))))))
def zj3 (x0 : (A6 zd)) (x1 : Int) (x2 : Wld) (x3 : (A6 zd)) (x4 : Deed) (x5 : Reply) (x6 : za) : Option ((Bool × Wld × (A6 zd)) ⊕ (Wld × (A6 zd) × za)) := zeh (fun s : (A6 zd) × Int × Wld × (A6 zd) × Deed × Reply × za => (zdo s.1 s.2.1 s.2.2.1 s.2.2.2.1 s.2.2.2.2.1 s.2.2.2.2.2.1 s.2.2.2.2.2.2).run) (x0, x1, x2, x3, x4, x5, x6)
def zayf : Ann := ⟨[([0, 1, 0, 1, 1, 1, 0, 0, 1, 1, 0, 0, 1, 0, 1, 1], zaqr)], [], [], zatj, []⟩
def zayg : EndD ((A6 zd) × Int × Wld × (A6 zd) × Deed × Reply × za) := ⟨(LQ.skip (LQ.const (.ptr 1 0)) (LQ.skip (LQ.const (.ptr 2 0)) (LQ.skip (LQ.const (.ptr 3 0)) (LQ.skip (LQ.const (.ptr 4 0)) (LQ.seq (Par.q (Par.ofLP (a6L zaf))) (LQ.seq (Par.q intP) (LQ.seq (LP.q zn0) (LQ.seq (LP.q (a6L zaf)) (LQ.seq (LP.q deedL) (LQ.seq (LP.q zus) (LP.q providerL))))))))))), ⟨[3, 5, 6, 8, 17, 18], []⟩, [.cells 109 159, .cells 41 30, .cells 35 7, .cells 29 2, .cells 61 97]⟩
def zan3 : EndD (Bool × Wld × (A6 zd)) := ⟨(LQ.seq (Par.q boolP) (LQ.seq (LP.q zn0) (LP.q (a6L zaf)))), ⟨[7], []⟩, [.cells 109 159, .cells 41 30]⟩
def zan4 : EndD (Wld × (A6 zd) × za) := ⟨(LQ.skip (LQ.const (.ptr 1 0)) (LQ.skip (LQ.const (.ptr 2 0)) (LQ.seq (LP.q zn0) (LQ.seq (LP.q (a6L zaf)) (LP.q providerL))))), ⟨[3, 8], []⟩, [.cells 109 159, .cells 41 30, .cells 61 97]⟩
def zaqs : St → Option LR := L2 88 9 2 zayg .ret zan3 (.exit 0) zan4 (fun s => zdo s.1 s.2.1 s.2.2.1 s.2.2.2.1 s.2.2.2.2.1 s.2.2.2.2.2.1 s.2.2.2.2.2.2)
theorem zayh : zq (zatk).env 2 (sub zakx [0, 1, 0, 1, 1]) zaqs :=
  zn2 (A := zayf) zatl Facts.mix ⟨zaye, trivial⟩ (k := zci (sub zakx [0, 1, 0, 1, 1])) (by kernel_rfl) rfl rfl (by rintro ⟨x0, x1, x2, x3, x4, x5, x6⟩; kernel_rfl)
def za9p : Ann := ⟨[([0, 1, 0, 1, 1], zaqs)], [], [], zatj, []⟩
def zlj (a0 : Deed) (a1 : Reply) (a2 : Wld) (a3 : (A6 zd)) : Tr (Bool × Wld × (A6 zd)) :=
  (.bind (zb9 a2) fun v1 =>
  (.two (zj3 (⟨(⟨v1.1.Stake.Validators.Tokens.x0, v1.1.Stake.Validators.Shares.x0, v1.1.Stake.Validators.Lost.x0, v1.1.Stake.Validators.Jailed.x0, v1.1.Stake.Validators.Dead.x0⟩ : zd), (⟨v1.1.Stake.Validators.Tokens.x1, v1.1.Stake.Validators.Shares.x1, v1.1.Stake.Validators.Lost.x1, v1.1.Stake.Validators.Jailed.x1, v1.1.Stake.Validators.Dead.x1⟩ : zd), (⟨v1.1.Stake.Validators.Tokens.x2, v1.1.Stake.Validators.Shares.x2, v1.1.Stake.Validators.Lost.x2, v1.1.Stake.Validators.Jailed.x2, v1.1.Stake.Validators.Dead.x2⟩ : zd), (⟨v1.1.Stake.Validators.Tokens.x3, v1.1.Stake.Validators.Shares.x3, v1.1.Stake.Validators.Lost.x3, v1.1.Stake.Validators.Jailed.x3, v1.1.Stake.Validators.Dead.x3⟩ : zd), (⟨v1.1.Stake.Validators.Tokens.x4, v1.1.Stake.Validators.Shares.x4, v1.1.Stake.Validators.Lost.x4, v1.1.Stake.Validators.Jailed.x4, v1.1.Stake.Validators.Dead.x4⟩ : zd), (⟨v1.1.Stake.Validators.Tokens.x5, v1.1.Stake.Validators.Shares.x5, v1.1.Stake.Validators.Lost.x5, v1.1.Stake.Validators.Jailed.x5, v1.1.Stake.Validators.Dead.x5⟩ : zd)⟩ : (A6 zd)) 0 v1.2 a3 a0 a1 v1.1) (fun v4 =>
    (.leaf (v4.1, v4.2.1, v4.2.2))) (fun v5 =>
    (.leaf (true, v5.1, (⟨(⟨v5.2.2.Stake.Validators.Tokens.x0, v5.2.2.Stake.Validators.Shares.x0, v5.2.2.Stake.Validators.Lost.x0, v5.2.2.Stake.Validators.Jailed.x0, v5.2.2.Stake.Validators.Dead.x0⟩ : zd), (⟨v5.2.2.Stake.Validators.Tokens.x1, v5.2.2.Stake.Validators.Shares.x1, v5.2.2.Stake.Validators.Lost.x1, v5.2.2.Stake.Validators.Jailed.x1, v5.2.2.Stake.Validators.Dead.x1⟩ : zd), (⟨v5.2.2.Stake.Validators.Tokens.x2, v5.2.2.Stake.Validators.Shares.x2, v5.2.2.Stake.Validators.Lost.x2, v5.2.2.Stake.Validators.Jailed.x2, v5.2.2.Stake.Validators.Dead.x2⟩ : zd), (⟨v5.2.2.Stake.Validators.Tokens.x3, v5.2.2.Stake.Validators.Shares.x3, v5.2.2.Stake.Validators.Lost.x3, v5.2.2.Stake.Validators.Jailed.x3, v5.2.2.Stake.Validators.Dead.x3⟩ : zd), (⟨v5.2.2.Stake.Validators.Tokens.x4, v5.2.2.Stake.Validators.Shares.x4, v5.2.2.Stake.Validators.Lost.x4, v5.2.2.Stake.Validators.Jailed.x4, v5.2.2.Stake.Validators.Dead.x4⟩ : zd), (⟨v5.2.2.Stake.Validators.Tokens.x5, v5.2.2.Stake.Validators.Shares.x5, v5.2.2.Stake.Validators.Lost.x5, v5.2.2.Stake.Validators.Jailed.x5, v5.2.2.Stake.Validators.Dead.x5⟩ : zd)⟩ : (A6 zd)))))))
def zcg (a0 : Deed) (a1 : Reply) (a2 : Wld) (a3 : (A6 zd)) : Option (Bool × Wld × (A6 zd)) := (zlj a0 a1 a2 a3).run
def zayi : LQ (Deed × Reply × Wld × (A6 zd)) := (LQ.skip (LQ.const (.ptr 0 0)) (LQ.seq (Par.q (Par.ofLP deedL)) (LQ.seq (Par.q (Par.ofLP zus)) (LQ.skip (LQ.const (.ptr 1 0)) (LQ.seq (LP.q zn0) (LP.q (a6L zaf)))))))
def zvc : LQ (Bool × Wld × (A6 zd)) := (LQ.seq (Par.q boolP) (LQ.seq (LP.q zn0) (LP.q (a6L zaf))))
def zw5 : SpecT := zv 2 zayi 4 [.cells 109 159, .cells 41 30] (fun s => zlj s.1 s.2.1 s.2.2.1 s.2.2.2) default zvc 1 [.cells 109 159, .cells 41 30]
theorem z3y : zi Tryz.prog 30 (zw5).spec :=
  zf (A := za9p) zatl Facts.mix Tryz.func30 (c := zakx) (by kernel_rfl) (Lc := 2) ⟨zayh, trivial⟩ zayi 4 9 [.cells 109 159, .cells 41 30] (fun s => zlj s.1 s.2.1 s.2.2.1 s.2.2.2) default zvc 1 [.cells 109 159, .cells 41 30] [.pubN 0] (by decide) (by kernel_rfl) (by rfl) (by decide) (by decide) (by rfl)
    (by rintro ⟨a0, a1, a2, a3⟩; kernel_rfl)
noncomputable def zatm : Code := Tryz.f17.body.getD .skip
def zayj : List (List Nat) := [[0, 1], [0, 1, 10], [4, 5], [0, 1, 6], [0, 1, 6, 7], [0, 1, 6, 7, 19], [0, 1, 6, 7], [0, 1, 6, 7, 8], [0, 1, 6, 7, 36], [4, 5], [4, 5]]
noncomputable def zayk : EnvT := ⟨Tryz.prog, zr [(15, zz2), (43, zud), (29, zjs), (30, zw5)]⟩
theorem zayl : (zayk).Ok := ze ⟨z3j, zw0, zma, z3y, trivial⟩
def ze3 (x0 : (List Deed)) (x1 : Int) (x2 : (A6 zd)) (x3 : Wld) : Tr (((List Deed) × Int × (A6 zd) × Wld) ⊕ ((Bool × (A6 zd) × Wld) ⊕ ((A6 zd) × Wld))) :=
  (.ite ((decide (x1 < ((x0.length : Nat) : Int))) && (decide (x1 < 120)))
    (.guard ((0 : Int) ≤ x1 ∧ x1 < ((Sl.len (.deeds x0) : Nat) : Int))
    (.bind (zbj (x0.getD x1.toNat default) x3) fun v3 =>
    (.guard ((0 : Int) ≤ x1 ∧ x1 < ((Sl.len (.deeds x0) : Nat) : Int))
    (.guard ((zcg (x0.getD x1.toNat default) v3.1 v3.2 x2).isSome = true)
    (.ite (!((zcg (x0.getD x1.toNat default) v3.1 v3.2 x2).getD default).1)
      (.leaf (.inr (.inl (false, (((zcg (x0.getD x1.toNat default) v3.1 v3.2 x2).getD default).2.2), ((zcg (x0.getD x1.toNat default) v3.1 v3.2 x2).getD default).2.1))))
      (.leaf (.inl (x0, IntKind.i64.wrap (x1 + 1), (((zcg (x0.getD x1.toNat default) v3.1 v3.2 x2).getD default).2.2), ((zcg (x0.getD x1.toNat default) v3.1 v3.2 x2).getD default).2.1))))))))
    (.leaf (.inr (.inr (x2, x3)))))
def zj4 (x0 : (List Deed)) (x1 : Int) (x2 : (A6 zd)) (x3 : Wld) : Option ((Bool × (A6 zd) × Wld) ⊕ ((A6 zd) × Wld)) := zeh (fun s : (List Deed) × Int × (A6 zd) × Wld => (ze3 s.1 s.2.1 s.2.2.1 s.2.2.2).run) (x0, x1, x2, x3)
def zaym : Ann := ⟨[], [], [], zayj, []⟩
def zayn : EndD ((List Deed) × Int × (A6 zd) × Wld) := ⟨(LQ.seq (Par.q deedsP) (LQ.skip (LQ.const (.fn 30 [.ptr 0 0])) (LQ.skip (LQ.const (.ptr 1 0)) (LQ.seq (Par.q intP) (LQ.seq (LP.q (a6L zaf)) (LP.q zn0)))))), ⟨[0, 1, 6, 7], [.pub 0, .nilsl 0 (.deeds [])]⟩, [.cells 41 30, .cells 109 159]⟩
def zan5 : EndD (Bool × (A6 zd) × Wld) := ⟨(LQ.skip (LQ.const (.ptr 1 0)) (LQ.seq (Par.q boolP) (LQ.seq (LP.q (a6L zaf)) (LP.q zn0)))), ⟨[4, 5], [.pubB 4]⟩, [.cells 41 30, .cells 109 159]⟩
def zan6 : EndD ((A6 zd) × Wld) := ⟨(LQ.skip (LQ.const (.ptr 1 0)) (LQ.seq (LP.q (a6L zaf)) (LP.q zn0))), ⟨[6], []⟩, [.cells 41 30, .cells 109 159]⟩
def zaqt : St → Option LR := L2 39 5 1 zayn .ret zan5 (.exit 0) zan6 (fun s => ze3 s.1 s.2.1 s.2.2.1 s.2.2.2)
theorem zayo : zq (zayk).env 1 (sub zatm [0, 1, 0, 1, 1, 1]) zaqt :=
  zn2 (A := zaym) zayl Facts.mix trivial (k := zci (sub zatm [0, 1, 0, 1, 1, 1])) (by kernel_rfl) rfl rfl (by rintro ⟨x0, x1, x2, x3⟩; kernel_rfl)
def za9q : Ann := ⟨[([0, 1, 0, 1, 1, 1], zaqt)], [], [], zayj, []⟩
def zlk (a0 : (List Deed)) (a1 : (A6 zd)) : Tr (Bool × (A6 zd) × Wld) :=
  (.bind (zrs) fun v1 =>
  (.ite (!v1)
    .fail
    (.bind (zno) fun v2 =>
    (.two (zj4 a0 0 a1 v2) (fun v4 =>
      (.leaf (v4.1, v4.2.1, v4.2.2))) (fun v5 =>
      (.leaf (true, v5.1, v5.2)))))))
def zvd (a0 : (List Deed)) (a1 : (A6 zd)) : Option (Bool × (A6 zd) × Wld) := (zlk a0 a1).run
def zayp : LQ ((List Deed) × (A6 zd)) := (LQ.seq (Par.q deedsP) (LQ.skip (LQ.const (.fn 30 [.ptr 0 0])) (LP.q (a6L zaf))))
def zve : LQ (Bool × (A6 zd) × Wld) := (LQ.skip (LQ.const (.ptr 1 0)) (LQ.seq (Par.q boolP) (LQ.seq (LP.q (a6L zaf)) (LP.q zn0))))
def zw6 : SpecT := zv 1 zayp 2 [.cells 41 30] (fun s => zlk s.1 s.2) default zve 2 [.cells 41 30, .cells 109 159]
theorem z3z : zi Tryz.prog 17 (zw6).spec :=
  zf (A := za9q) zayl Facts.mix Tryz.func17 (c := zatm) (by kernel_rfl) (Lc := 1) ⟨zayo, trivial⟩ zayp 2 5 [.cells 41 30] (fun s => zlk s.1 s.2) default zve 2 [.cells 41 30, .cells 109 159] [.pubB 4] (by decide) (by kernel_rfl) (by rfl) (by decide) (by decide) (by rfl)
    (by rintro ⟨a0, a1⟩; kernel_rfl)
noncomputable def za9r : Code := Tryz.f8.body.getD .skip
def za9s : List (List Nat) := [[0], [0, 3], [5], [2]]
noncomputable def za9t : EnvT := ⟨Tryz.prog, zr [(17, zw6)]⟩
theorem za9u : (za9t).Ok := ze ⟨z3z, trivial⟩
def za9v : Ann := ⟨[], [], [], za9s, []⟩
def zpf (a0 : (List Deed)) : Tr (Bool) :=
  (.bind (zvd a0 (⟨(⟨0, 0, 0, false, false⟩ : zd), (⟨0, 0, 0, false, false⟩ : zd), (⟨0, 0, 0, false, false⟩ : zd), (⟨0, 0, 0, false, false⟩ : zd), (⟨0, 0, 0, false, false⟩ : zd), (⟨0, 0, 0, false, false⟩ : zd)⟩ : (A6 zd))) fun v1 =>
  (.leaf v1.1))
def zm6 (a0 : (List Deed)) : Option (Bool) := (zpf a0).run
def zayq : LQ ((List Deed)) := (Par.q deedsP)
def qr_top_TopDead : LQ (Bool) := (Par.q boolP)
def zaag : SpecT := zv 0 zayq 1 [] (fun s => zpf s) default qr_top_TopDead 1 []
theorem z7r : zi Tryz.prog 8 (zaag).spec :=
  zf (A := za9v) za9u Facts.mix Tryz.func8 (c := za9r) (by kernel_rfl) (Lc := 0) trivial zayq 1 4 [] (fun s => zpf s) default qr_top_TopDead 1 [] [] (by decide) (by kernel_rfl) (by rfl) (by decide) (by decide) (by rfl)
    (by rintro a0; kernel_rfl)
noncomputable def zaen : Code := Tryz.f35.body.getD .skip
def zan7 : List (List Nat) := [[0, 4], [0, 4, 7], [0, 4, 7, 8], [0, 4, 7, 8, 21], [0, 4, 7, 8], [0, 4, 7, 8, 9], [0, 4, 7, 8, 9, 29], [0, 4, 7, 8, 9, 10, 11], [0, 4, 7, 8, 10, 11, 35, 36, 37], [0, 4, 7, 8, 10, 11, 35, 36, 37, 38], [0, 4, 7, 8, 10, 13, 35, 36, 37], [0, 4, 7, 8, 10, 11, 35, 36, 37], [0, 4, 7, 8, 10, 11, 35, 36, 37], [0, 4, 7, 8, 10, 11, 14], [0, 4, 7, 8, 10, 11, 14, 15], [0, 4, 7, 8, 10, 11, 14, 15, 59], [0, 4, 7, 8, 10, 11, 14, 15], [0, 4, 7, 8, 10, 11, 14, 15, 16, 17], [0, 4, 7, 8, 10, 14, 15, 16, 83], [6], [0, 4, 7, 8, 10, 11, 14, 15], [0, 4, 7, 8, 109], [6], [6]]
noncomputable def zan8 : EnvT := ⟨Tryz.prog, zr [(19, zg0), (23, zg1), (36, zt9), (37, zmu), (38, zvb)]⟩
theorem zan9 : (zan8).Ok := ze ⟨zlg, zli, zyz, zp1, z2d, trivial⟩
def zhd (x0 : Int) (x1 : (List Power)) (x2 : Int) (x3 : (List Packet)) (x4 : Int) (x5 : Int) (x6 : Wld) (x7 : Deed) (x8 : za) : Tr ((Int × (List Power) × Int × (List Packet) × Int × Int × Wld × Deed × za) ⊕ (Int × (List Power) × Int × Wld × Deed × za)) :=
  (.ite (decide (x5 < x4))
    (.guard ((0 : Int) ≤ x5 ∧ x5 < ((Sl.len (.packets x3) : Nat) : Int))
    (.guard ((zfa x1 (x3.getD x5.toNat default).Set).isSome = true)
    (.leaf (.inl (x0, ((zfa x1 (x3.getD x5.toNat default).Set).getD default), (x3.getD x5.toNat default).Id, x3, x4, IntKind.i64.wrap (x5 + 1), x6, x7, x8)))))
    (.leaf (.inr (x0, x1, x2, x6, x7, x8))))
def zd9 (x0 : Int) (x1 : (List Power)) (x2 : Int) (x3 : (List Packet)) (x4 : Int) (x5 : Int) (x6 : Wld) (x7 : Deed) (x8 : za) : Option (Int × (List Power) × Int × Wld × Deed × za) := zeh (fun s : Int × (List Power) × Int × (List Packet) × Int × Int × Wld × Deed × za => (zhd s.1 s.2.1 s.2.2.1 s.2.2.2.1 s.2.2.2.2.1 s.2.2.2.2.2.1 s.2.2.2.2.2.2.1 s.2.2.2.2.2.2.2.1 s.2.2.2.2.2.2.2.2).run) (x0, x1, x2, x3, x4, x5, x6, x7, x8)
def zayr : Ann := ⟨[], [], [], zan7, []⟩
def zays : EndD (Int × (List Power) × Int × (List Packet) × Int × Int × Wld × Deed × za) := ⟨(LQ.skip (LQ.const (.ptr 0 0)) (LQ.skip (LQ.const (.ptr 1 0)) (LQ.skip (LQ.const (.ptr 2 0)) (LQ.seq (Par.q intP) (LQ.seq (Par.q zm) (LQ.seq (Par.q intP) (LQ.seq (Par.q zdv) (LQ.seq (Par.q intP) (LQ.seq (Par.q intP) (LQ.seq (LP.q zn0) (LQ.seq (LP.q deedL) (LP.q providerL)))))))))))), ⟨[0, 4, 7, 8, 10, 11, 35, 36, 37], [.pub 10, .nilsl 10 (.powers []), .pub 35, .nilsl 35 (.packets [])]⟩, [.cells 109 159, .cells 35 7, .cells 61 97]⟩
def zaoa : EndD (Int × (List Power) × Int × Wld × Deed × za) := ⟨(LQ.skip (LQ.const (.ptr 0 0)) (LQ.skip (LQ.const (.ptr 1 0)) (LQ.skip (LQ.const (.ptr 2 0)) (LQ.seq (Par.q intP) (LQ.seq (Par.q zm) (LQ.seq (Par.q intP) (LQ.seq (LP.q zn0) (LQ.seq (LP.q deedL) (LP.q providerL))))))))), ⟨[0, 4, 7, 8, 10, 11], [.pub 10, .nilsl 10 (.powers [])]⟩, [.cells 109 159, .cells 35 7, .cells 61 97]⟩
def zaqu : St → Option LR := L1 110 7 1 zays (.exit 2) zaoa (fun s => zhd s.1 s.2.1 s.2.2.1 s.2.2.2.1 s.2.2.2.2.1 s.2.2.2.2.2.1 s.2.2.2.2.2.2.1 s.2.2.2.2.2.2.2.1 s.2.2.2.2.2.2.2.2)
theorem zayt : zq (zan8).env 1 (sub zaen [0, 1, 0, 1, 1, 1, 0, 0, 1, 0, 0, 1, 0, 1, 1]) zaqu :=
  ziy (A := zayr) zan9 Facts.mix trivial (k := zci (sub zaen [0, 1, 0, 1, 1, 1, 0, 0, 1, 0, 0, 1, 0, 1, 1])) (by kernel_rfl) rfl (by rintro ⟨x0, x1, x2, x3, x4, x5, x6, x7, x8⟩; kernel_rfl)
def zhe (x0 : Int) (x1 : (List Power)) (x2 : Int) (x3 : Int) (x4 : Wld) (x5 : Deed) (x6 : za) (x7 : zeg) : Tr ((Int × (List Power) × Int × Int × Wld × Deed × za × zeg) ⊕ ((Bool × Wld) ⊕ (Int × (List Power) × Wld × Deed × za))) :=
  (.ite (decide (x3 < ((x7.Said.length : Nat) : Int)))
    (.guard ((0 : Int) ≤ x3 ∧ x3 < ((Sl.len (.strs x7.Said) : Nat) : Int))
    (.bind (zcz (x7.Said.getD x3.toNat .empty)) fun v4 =>
    (.ite (((v4.2 != 0) || (v4.1.Kind != 1)) || (decide (v4.1.Id ≤ x2)))
      (.leaf (.inr (.inl (false, x4))))
      (.guard ((zfa x1 v4.1.Set).isSome = true)
      (.leaf (.inl (x0, ((zfa x1 v4.1.Set).getD default), v4.1.Id, IntKind.i64.wrap (x3 + 1), x4, x5, x6, x7)))))))
    (.leaf (.inr (.inr (x0, x1, x4, x5, x6)))))
def zea (x0 : Int) (x1 : (List Power)) (x2 : Int) (x3 : Int) (x4 : Wld) (x5 : Deed) (x6 : za) (x7 : zeg) : Option ((Bool × Wld) ⊕ (Int × (List Power) × Wld × Deed × za)) := zeh (fun s : Int × (List Power) × Int × Int × Wld × Deed × za × zeg => (zhe s.1 s.2.1 s.2.2.1 s.2.2.2.1 s.2.2.2.2.1 s.2.2.2.2.2.1 s.2.2.2.2.2.2.1 s.2.2.2.2.2.2.2).run) (x0, x1, x2, x3, x4, x5, x6, x7)
def zayu : Ann := ⟨[], [], [], zan7, []⟩
def zayv : EndD (Int × (List Power) × Int × Int × Wld × Deed × za × zeg) := ⟨(LQ.skip (LQ.const (.ptr 0 0)) (LQ.skip (LQ.const (.ptr 1 0)) (LQ.skip (LQ.const (.ptr 2 0)) (LQ.seq (Par.q intP) (LQ.seq (Par.q zm) (LQ.seq (Par.q intP) (LQ.skip (LQ.const (.ptr 3 0)) (LQ.seq (Par.q intP) (LQ.seq (LP.q zn0) (LQ.seq (LP.q deedL) (LQ.seq (LP.q providerL) (LP.q lineL)))))))))))), ⟨[0, 4, 7, 8, 10, 11, 14, 15], [.pub 10, .nilsl 10 (.powers [])]⟩, [.cells 109 159, .cells 35 7, .cells 61 97, .cells 51 4]⟩
def zaob : EndD (Bool × Wld) := ⟨(LQ.seq (Par.q boolP) (LP.q zn0)), ⟨[6], []⟩, [.cells 109 159]⟩
def zaoc : EndD (Int × (List Power) × Wld × Deed × za) := ⟨(LQ.skip (LQ.const (.ptr 0 0)) (LQ.skip (LQ.const (.ptr 1 0)) (LQ.skip (LQ.const (.ptr 2 0)) (LQ.seq (Par.q intP) (LQ.seq (Par.q zm) (LQ.seq (LP.q zn0) (LQ.seq (LP.q deedL) (LP.q providerL)))))))), ⟨[0, 4, 7, 8, 10], [.pub 10, .nilsl 10 (.powers [])]⟩, [.cells 109 159, .cells 35 7, .cells 61 97]⟩
def zaqv : St → Option LR := L2 110 7 1 zayv .ret zaob (.exit 4) zaoc (fun s => zhe s.1 s.2.1 s.2.2.1 s.2.2.2.1 s.2.2.2.2.1 s.2.2.2.2.2.1 s.2.2.2.2.2.2.1 s.2.2.2.2.2.2.2)
theorem zayw : zq (zan8).env 1 (sub zaen [0, 1, 0, 1, 1, 1, 1, 1, 0, 0, 1, 0, 0, 1, 0, 1, 1]) zaqv :=
  zn2 (A := zayu) zan9 Facts.mix trivial (k := zci (sub zaen [0, 1, 0, 1, 1, 1, 1, 1, 0, 0, 1, 0, 0, 1, 0, 1, 1])) (by kernel_rfl) rfl rfl (by rintro ⟨x0, x1, x2, x3, x4, x5, x6, x7⟩; kernel_rfl)
def zdp (x0 : Int) (x1 : Wld) (x2 : Deed) (x3 : za) : Tr ((Int × Wld × Deed × za) ⊕ ((Bool × Wld) ⊕ (Wld))) :=
  (.ite (decide (x0 < 2))
    (.bind (zbi x0 x1) fun v2 =>
    (.ite (!v2.1.On)
      (.leaf (.inl (IntKind.i64.wrap (x0 + 1), v2.2, x2, x3)))
      (.bind (zd9 x0 v2.1.Set v2.1.Id v2.1.Pending ((v2.1.Pending.length : Nat) : Int) 0 v2.2 x2 x3) fun v3 =>
      (.guard ((0 : Int) ≤ v3.1 ∧ (v3.1 : Int) < 2)
      (.two (zea v3.1 v3.2.1 v3.2.2.1 (v3.2.2.2.2.2.Links.Got.get v3.1) v3.2.2.2.1 v3.2.2.2.2.1 v3.2.2.2.2.2 (zh v3.2.2.2.2.2.Links v3.1).Out) (fun v5 =>
        (.leaf (.inr (.inl (v5.1, v5.2))))) (fun v6 =>
        (.guard ((0 : Int) ≤ v6.1 ∧ (v6.1 : Int) < 2)
        (.bind (zcp v6.2.1 (v6.2.2.2.2.Links.Told.get v6.1)) fun v7 =>
        (.guard (((v6.2.2.2.1.Kind == 6) = true → ((!v7) = false → ((zcp v6.2.1 v6.2.2.2.2.Set).isSome = true) ∧ True)))
        (.ite ((!v7) || ((v6.2.2.2.1.Kind == 6) && (!((zcp v6.2.1 v6.2.2.2.2.Set).getD default))))
          (.leaf (.inr (.inl (false, v6.2.2.1))))
          (.leaf (.inl (IntKind.i64.wrap (v6.1 + 1), v6.2.2.1, v6.2.2.2.1, v6.2.2.2.2)))))))))))))
    (.leaf (.inr (.inr x1))))
def zj5 (x0 : Int) (x1 : Wld) (x2 : Deed) (x3 : za) : Option ((Bool × Wld) ⊕ (Wld)) := zeh (fun s : Int × Wld × Deed × za => (zdp s.1 s.2.1 s.2.2.1 s.2.2.2).run) (x0, x1, x2, x3)
def zayx : Ann := ⟨[([0, 1, 0, 1, 1, 1, 0, 0, 1, 0, 0, 1, 0, 1, 1], zaqu), ([0, 1, 0, 1, 1, 1, 1, 1, 0, 0, 1, 0, 0, 1, 0, 1, 1], zaqv)], [], [], zan7, []⟩
def zayy : EndD (Int × Wld × Deed × za) := ⟨(LQ.skip (LQ.const (.ptr 0 0)) (LQ.skip (LQ.const (.ptr 1 0)) (LQ.skip (LQ.const (.ptr 2 0)) (LQ.seq (Par.q intP) (LQ.seq (LP.q zn0) (LQ.seq (LP.q deedL) (LP.q providerL))))))), ⟨[0, 4, 7, 8], []⟩, [.cells 109 159, .cells 35 7, .cells 61 97]⟩
def zaod : EndD (Bool × Wld) := ⟨(LQ.seq (Par.q boolP) (LP.q zn0)), ⟨[6], []⟩, [.cells 109 159]⟩
def zaoe : EndD (Wld) := ⟨(LP.q zn0), ⟨[], []⟩, [.cells 109 159]⟩
def zaqw : St → Option LR := L2 110 7 1 zayy .ret zaod (.exit 0) zaoe (fun s => zdp s.1 s.2.1 s.2.2.1 s.2.2.2)
theorem zayz : zq (zan8).env 1 (sub zaen [0, 1, 0, 1, 1]) zaqw :=
  zn2 (A := zayx) zan9 Facts.mix ⟨zayt, zayw, trivial⟩ (k := zci (sub zaen [0, 1, 0, 1, 1])) (by kernel_rfl) rfl rfl (by rintro ⟨x0, x1, x2, x3⟩; kernel_rfl)
def za9w : Ann := ⟨[([0, 1, 0, 1, 1], zaqw)], [], [], zan7, []⟩
def zll (a0 : Deed) (a1 : Reply) (a2 : Wld) : Tr (Bool × Wld) :=
  (.bind (zb9 a2) fun v1 =>
  (.two (zj5 0 v1.2 a0 v1.1) (fun v8 =>
    (.leaf (v8.1, v8.2))) (fun v9 =>
    (.leaf (true, v9)))))
def zdt (a0 : Deed) (a1 : Reply) (a2 : Wld) : Option (Bool × Wld) := (zll a0 a1 a2).run
def zay0 : LQ (Deed × Reply × Wld) := (LQ.skip (LQ.const (.ptr 0 0)) (LQ.seq (Par.q (Par.ofLP deedL)) (LQ.seq (Par.q (Par.ofLP zus)) (LP.q zn0))))
def zvf : LQ (Bool × Wld) := (LQ.seq (Par.q boolP) (LP.q zn0))
def zw7 : SpecT := zv 1 zay0 3 [.cells 109 159] (fun s => zll s.1 s.2.1 s.2.2) default zvf 1 [.cells 109 159]
theorem z30 : zi Tryz.prog 35 (zw7).spec :=
  zf (A := za9w) zan9 Facts.mix Tryz.func35 (c := zaen) (by kernel_rfl) (Lc := 1) ⟨zayz, trivial⟩ zay0 3 7 [.cells 109 159] (fun s => zll s.1 s.2.1 s.2.2) default zvf 1 [.cells 109 159] [.pubN 0] (by decide) (by kernel_rfl) (by rfl) (by decide) (by decide) (by rfl)
    (by rintro ⟨a0, a1, a2⟩; kernel_rfl)
noncomputable def zatn : Code := Tryz.f17.body.getD .skip
def zay1 : List (List Nat) := [[0, 1], [0, 1, 10], [4, 5], [0, 1, 6], [0, 1, 6, 7], [0, 1, 6, 7, 19], [0, 1, 6, 7], [0, 1, 6, 7, 8], [0, 1, 6, 7, 36], [4, 5], [4, 5]]
noncomputable def zay2 : EnvT := ⟨Tryz.prog, zr [(15, zz2), (43, zud), (29, zjs), (35, zw7)]⟩
theorem zay3 : (zay2).Ok := ze ⟨z3j, zw0, zma, z30, trivial⟩
def zrt (x0 : (List Deed)) (x1 : Int) (x2 : Wld) : Tr (((List Deed) × Int × Wld) ⊕ ((Bool × Wld) ⊕ (Wld))) :=
  (.ite ((decide (x1 < ((x0.length : Nat) : Int))) && (decide (x1 < 120)))
    (.guard ((0 : Int) ≤ x1 ∧ x1 < ((Sl.len (.deeds x0) : Nat) : Int))
    (.bind (zbj (x0.getD x1.toNat default) x2) fun v3 =>
    (.guard ((0 : Int) ≤ x1 ∧ x1 < ((Sl.len (.deeds x0) : Nat) : Int))
    (.guard ((zdt (x0.getD x1.toNat default) v3.1 v3.2).isSome = true)
    (.ite (!((zdt (x0.getD x1.toNat default) v3.1 v3.2).getD default).1)
      (.leaf (.inr (.inl (false, ((zdt (x0.getD x1.toNat default) v3.1 v3.2).getD default).2))))
      (.leaf (.inl (x0, IntKind.i64.wrap (x1 + 1), ((zdt (x0.getD x1.toNat default) v3.1 v3.2).getD default).2))))))))
    (.leaf (.inr (.inr x2))))
def zqj (x0 : (List Deed)) (x1 : Int) (x2 : Wld) : Option ((Bool × Wld) ⊕ (Wld)) := zeh (fun s : (List Deed) × Int × Wld => (zrt s.1 s.2.1 s.2.2).run) (x0, x1, x2)
def zay4 : Ann := ⟨[], [], [], zay1, []⟩
def zay5 : EndD ((List Deed) × Int × Wld) := ⟨(LQ.seq (Par.q deedsP) (LQ.skip (LQ.const (.fn 35 [])) (LQ.skip (LQ.const (.ptr 0 0)) (LQ.seq (Par.q intP) (LP.q zn0))))), ⟨[0, 1, 6, 7], [.pub 0, .nilsl 0 (.deeds [])]⟩, [.cells 109 159]⟩
def zaof : EndD (Bool × Wld) := ⟨(LQ.skip (LQ.const (.ptr 0 0)) (LQ.seq (Par.q boolP) (LP.q zn0))), ⟨[4, 5], [.pubB 4]⟩, [.cells 109 159]⟩
def zaog : EndD (Wld) := ⟨(LQ.skip (LQ.const (.ptr 0 0)) (LP.q zn0)), ⟨[6], []⟩, [.cells 109 159]⟩
def zaqx : St → Option LR := L2 39 4 0 zay5 .ret zaof (.exit 0) zaog (fun s => zrt s.1 s.2.1 s.2.2)
theorem zay6 : zq (zay2).env 0 (sub zatn [0, 1, 0, 1, 1, 1]) zaqx :=
  zn2 (A := zay4) zay3 Facts.mix trivial (k := zci (sub zatn [0, 1, 0, 1, 1, 1])) (by kernel_rfl) rfl rfl (by rintro ⟨x0, x1, x2⟩; kernel_rfl)
def za9x : Ann := ⟨[([0, 1, 0, 1, 1, 1], zaqx)], [], [], zay1, []⟩
def zlm (a0 : (List Deed)) : Tr (Bool × Wld) :=
  (.bind (zrs) fun v1 =>
  (.ite (!v1)
    .fail
    (.bind (zno) fun v2 =>
    (.two (zqj a0 0 v2) (fun v4 =>
      (.leaf (v4.1, v4.2))) (fun v5 =>
      (.leaf (true, v5)))))))
def zvg (a0 : (List Deed)) : Option (Bool × Wld) := (zlm a0).run
def zay7 : LQ ((List Deed)) := (LQ.skipR (Par.q deedsP) (LQ.const (.fn 35 [])))
def zvh : LQ (Bool × Wld) := (LQ.skip (LQ.const (.ptr 0 0)) (LQ.seq (Par.q boolP) (LP.q zn0)))
def zw8 : SpecT := zv 0 zay7 2 [] (fun s => zlm s) default zvh 2 [.cells 109 159]
theorem z31 : zi Tryz.prog 17 (zw8).spec :=
  zf (A := za9x) zay3 Facts.mix Tryz.func17 (c := zatn) (by kernel_rfl) (Lc := 0) ⟨zay6, trivial⟩ zay7 2 4 [] (fun s => zlm s) default zvh 2 [.cells 109 159] [.pubB 4] (by decide) (by kernel_rfl) (by rfl) (by decide) (by decide) (by rfl)
    (by rintro a0; kernel_rfl)
noncomputable def za9y : Code := Tryz.f10.body.getD .skip
def za9z : List (List Nat) := [[0], [4], [2]]
noncomputable def zbaa : EnvT := ⟨Tryz.prog, zr [(17, zw8)]⟩
theorem zbab : (zbaa).Ok := ze ⟨z31, trivial⟩
def zbac : Ann := ⟨[], [], [], za9z, []⟩
def zpg (a0 : (List Deed)) : Tr (Bool) :=
  (.bind (zvg a0) fun v1 =>
  (.leaf v1.1))
def zm7 (a0 : (List Deed)) : Option (Bool) := (zpg a0).run
def zay8 : LQ ((List Deed)) := (Par.q deedsP)
def qr_top_TopTold : LQ (Bool) := (Par.q boolP)
def zaah : SpecT := zv 0 zay8 1 [] (fun s => zpg s) default qr_top_TopTold 1 []
theorem z7s : zi Tryz.prog 10 (zaah).spec :=
  zf (A := zbac) zbab Facts.mix Tryz.func10 (c := za9y) (by kernel_rfl) (Lc := 0) trivial zay8 1 3 [] (fun s => zpg s) default qr_top_TopTold 1 [] [] (by decide) (by kernel_rfl) (by rfl) (by decide) (by decide) (by rfl)
    (by rintro a0; kernel_rfl)
end
end Go.Proofs.YtmakmlnfbdablaaGreat.Ab
