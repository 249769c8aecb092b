/-
  The functions, each by its tree.
-/
import Derived.Test.YtmakmlnfbdablaaGreatXAbFun
import Derived.Test.YtmakmlnfbdablaaGreatXAbStructs
import Derived.Test.YtmakmlnfbdablaaGreatXFBank
import Derived.Test.YtmakmlnfbdablaaGreatXFCodec
import Derived.Test.YtmakmlnfbdablaaGreatXFCons
import Derived.Test.YtmakmlnfbdablaaGreatXFLine
import Derived.Test.YtmakmlnfbdablaaGreatXFProv
import Derived.Test.YtmakmlnfbdablaaGreatXFStakeA
import Derived.Test.YtmakmlnfbdablaaGreatXFStakeB
import Derived.Test.YtmakmlnfbdablaaGreatXFWld
import Derived.Test.YtmakmlnfbdablaaGreatXFacts
namespace Go.Proofs.YtmakmlnfbdablaaGreat.Ab
open Go Go.RowKit
set_option maxRecDepth 100000
set_option linter.unusedVariables false
set_option linter.unusedSimpArgs false
noncomputable section
noncomputable def za4r : Code := Tryz.f15.body.getD .skip
def za4s : List (List Nat) := [[], [1], [1, 8], [0], [1, 2], [1, 2, 3], [1, 2, 3, 4], [1, 2, 3, 4, 5], [0]]
noncomputable def za4t : EnvT := ⟨Tryz.prog, zq [(43, ztk), (29, zi9), (40, zpo), (23, zgk)]⟩
theorem za4u : (za4t).Ok := zc ⟨zvp, zlm, zw5, zkv, trivial⟩
def za4v : Ann := ⟨[], [], [[1, 0, 1, 1]], za4s, []⟩
def ztl  : Tr (Bool) :=
  (.bind (zmz) fun v1 =>
  (.bind (zbd (⟨1, 0, 0, 0, 700, false, false⟩ : Deed) v1) fun v2 =>
  (.bind (zbd (⟨5, 0, 0, 0, 5, false, false⟩ : Deed) v2.2) fun v3 =>
  (.bind (zbd (⟨6, 0, 0, 0, 0, false, false⟩ : Deed) v3.2) fun v4 =>
  (.bind (zbd (⟨4, 0, 0, 0, 0, false, false⟩ : Deed) v4.2) fun v5 =>
  (.ite ((((v2.1.Code == 0) && (v3.1.N == 5)) && (v4.1.Code == 0)) && (v5.1.N == 1))
    (.bind (zie v5.2) fun v6 =>
    (.ite ((true : Bool) && (v6.1 == 5))
      (.bind (zbc 0 v6.2) fun v7 =>
      (.leaf ((true : Bool) && (((v7.1.Set.length : Nat) : Int) == 1))))
      (.ite ((false : Bool))
        .fail
        (.ite ((false : Bool))
          .fail
          (.ite ((false : Bool))
            .fail
            (.ite ((false : Bool))
              .fail
              (.leaf (false : Bool))))))))
    (.ite ((false : Bool))
      .fail
      (.ite ((false : Bool))
        .fail
        (.ite ((false : Bool))
          (.bind (zbc 0 v5.2) fun v6 =>
          (.leaf ((true : Bool) && (((v6.1.Set.length : Nat) : Int) == 1))))
          (.ite ((false : Bool))
            .fail
            (.ite ((false : Bool))
              .fail
              (.ite ((false : Bool))
                .fail
                (.ite ((false : Bool))
                  .fail
                  (.leaf (false : Bool)))))))))))))))
def zq2  : Option (Bool) := (ztl ).run
def zau9 : LQ (Unit) := LQ.nil
def z2h : LQ (Bool) := (Par.q boolP)
def zyp : SpecT := zt 0 zau9 0 [] (fun s => ztl ) default z2h 1 []
theorem z2i : zg Tryz.prog 15 (zyp).spec :=
  zd (A := za4v) za4u Facts.mix Tryz.func15 (c := za4r) (by kernel_rfl) (Lc := 0) trivial zau9 0 7 [] (fun s => ztl ) default z2h 1 [] [] (by decide) (by kernel_rfl) (by rfl) (by decide) (by decide) (by rfl)
    (by rintro _; kernel_rfl)
noncomputable def za4w : Code := Tryz.f18.body.getD .skip
def za4x : List (List Nat) := [[0], [7], [6]]
noncomputable def za4y : EnvT := ⟨Tryz.prog, zq [(19, zgj), (20, z1b), (21, zmu)]⟩
theorem za4z : (za4y).Ok := zc ⟨zkt, z39, zoh, trivial⟩
def za5a : Ann := ⟨[], [], [], za4x, []⟩
def zhu (a0 : Deed) (a1 : Reply) (a2 : Wld) : Tr (Bool × Wld) :=
  (.bind (zb3 a2) fun v1 =>
  (.bind (zo1 v1.1.Stake.Bank) fun v2 =>
  (.guard (((v2 == 400000) = true → ((zft v1.1.Stake).isSome = true) ∧ True))
  (.leaf ((v2 == 400000) && ((zft v1.1.Stake).getD default), v1.2)))))
def zb4 (a0 : Deed) (a1 : Reply) (a2 : Wld) : Option (Bool × Wld) := (zhu a0 a1 a2).run
def zava : LQ (Deed × Reply × Wld) := (LQ.skip (LQ.const (.ptr 0 0)) (LQ.seq (Par.q (Par.ofLP deedL)) (LQ.seq (Par.q (Par.ofLP zyy)) (LP.q zst))))
def zq3 : LQ (Bool × Wld) := (LQ.seq (Par.q boolP) (LP.q zst))
def zsj : SpecT := zt 1 zava 3 [.cells 109 159] (fun s => zhu s.1 s.2.1 s.2.2) default zq3 1 [.cells 109 159]
theorem z0p : zg Tryz.prog 18 (zsj).spec :=
  zd (A := za5a) za4z Facts.mix Tryz.func18 (c := za4w) (by kernel_rfl) (Lc := 1) trivial zava 3 6 [.cells 109 159] (fun s => zhu s.1 s.2.1 s.2.2) default zq3 1 [.cells 109 159] [.pubN 0] (by decide) (by kernel_rfl) (by rfl) (by decide) (by decide) (by rfl)
    (by rintro ⟨a0, a1, a2⟩; kernel_rfl)
noncomputable def zaqx : Code := Tryz.f17.body.getD .skip
def zavb : List (List Nat) := [[0, 1], [0, 1, 10], [4, 5], [0, 1, 6], [0, 1, 6, 7], [0, 1, 6, 7, 19], [0, 1, 6, 7], [0, 1, 6, 7, 8], [0, 1, 6, 7, 36], [4, 5], [4, 5]]
noncomputable def zavc : EnvT := ⟨Tryz.prog, zq [(15, zyp), (43, ztk), (29, zi9), (18, zsj)]⟩
theorem zavd : (zavc).Ok := zc ⟨z2i, zvp, zlm, z0p, trivial⟩
def zsk (x0 : (List Deed)) (x1 : Int) (x2 : Wld) : Tr (((List Deed) × Int × Wld) ⊕ ((Bool × Wld) ⊕ (Wld))) :=
  (.ite ((decide (x1 < ((x0.length : Nat) : Int))) && (decide (x1 < 120)))
    (.guard ((0 : Int) ≤ x1 ∧ x1 < ((Sl.len (.deeds x0) : Nat) : Int))
    (.bind (zbd (x0.getD x1.toNat default) x2) fun v3 =>
    (.guard ((0 : Int) ≤ x1 ∧ x1 < ((Sl.len (.deeds x0) : Nat) : Int))
    (.guard ((zb4 (x0.getD x1.toNat default) v3.1 v3.2).isSome = true)
    (.ite (!((zb4 (x0.getD x1.toNat default) v3.1 v3.2).getD default).1)
      (.leaf (.inr (.inl (false, ((zb4 (x0.getD x1.toNat default) v3.1 v3.2).getD default).2))))
      (.leaf (.inl (x0, IntKind.i64.wrap (x1 + 1), ((zb4 (x0.getD x1.toNat default) v3.1 v3.2).getD default).2))))))))
    (.leaf (.inr (.inr x2))))
def zq4 (x0 : (List Deed)) (x1 : Int) (x2 : Wld) : Option ((Bool × Wld) ⊕ (Wld)) := zel (fun s : (List Deed) × Int × Wld => (zsk s.1 s.2.1 s.2.2).run) (x0, x1, x2)
def zave : Ann := ⟨[], [], [], zavb, []⟩
def zavf : EndD ((List Deed) × Int × Wld) := ⟨(LQ.seq (Par.q deedsP) (LQ.skip (LQ.const (.fn 18 [])) (LQ.skip (LQ.const (.ptr 0 0)) (LQ.seq (Par.q intP) (LP.q zst))))), ⟨[0, 1, 6, 7], [.pub 0, .nilsl 0 (.deeds [])]⟩, [.cells 109 159]⟩
def zals : EndD (Bool × Wld) := ⟨(LQ.skip (LQ.const (.ptr 0 0)) (LQ.seq (Par.q boolP) (LP.q zst))), ⟨[4, 5], [.pubB 4]⟩, [.cells 109 159]⟩
def zalt : EndD (Wld) := ⟨(LQ.skip (LQ.const (.ptr 0 0)) (LP.q zst)), ⟨[6], []⟩, [.cells 109 159]⟩
def zaoa : St → Option LR := L2 39 4 0 zavf .ret zals (.exit 0) zalt (fun s => zsk s.1 s.2.1 s.2.2)
theorem zavg : zu (zavc).env 0 (sub zaqx [0, 1, 0, 1, 1, 1]) zaoa :=
  zra (A := zave) zavd Facts.mix trivial (k := zcw (sub zaqx [0, 1, 0, 1, 1, 1])) (by kernel_rfl) rfl rfl (by rintro ⟨x0, x1, x2⟩; kernel_rfl)
def za5b : Ann := ⟨[([0, 1, 0, 1, 1, 1], zaoa)], [], [], zavb, []⟩
def zmg (a0 : (List Deed)) : Tr (Bool × Wld) :=
  (.bind (zq2) fun v1 =>
  (.ite (!v1)
    .fail
    (.bind (zmz) fun v2 =>
    (.two (zq4 a0 0 v2) (fun v4 =>
      (.leaf (v4.1, v4.2))) (fun v5 =>
      (.leaf (true, v5)))))))
def zvu (a0 : (List Deed)) : Option (Bool × Wld) := (zmg a0).run
def zavh : LQ ((List Deed)) := (LQ.skipR (Par.q deedsP) (LQ.const (.fn 18 [])))
def zvv : LQ (Bool × Wld) := (LQ.skip (LQ.const (.ptr 0 0)) (LQ.seq (Par.q boolP) (LP.q zst)))
def zx0 : SpecT := zt 0 zavh 2 [] (fun s => zmg s) default zvv 2 [.cells 109 159]
theorem z4s : zg Tryz.prog 17 (zx0).spec :=
  zd (A := za5b) zavd Facts.mix Tryz.func17 (c := zaqx) (by kernel_rfl) (Lc := 0) ⟨zavg, trivial⟩ zavh 2 4 [] (fun s => zmg s) default zvv 2 [.cells 109 159] [.pubB 4] (by decide) (by kernel_rfl) (by rfl) (by decide) (by decide) (by rfl)
    (by rintro a0; kernel_rfl)
noncomputable def za5c : Code := Tryz.f4.body.getD .skip
def za5d : List (List Nat) := [[0], [4], [2]]
noncomputable def za5e : EnvT := ⟨Tryz.prog, zq [(17, zx0)]⟩
theorem za5f : (za5e).Ok := zc ⟨z4s, trivial⟩
def za5g : Ann := ⟨[], [], [], za5d, []⟩
def zkw (a0 : (List Deed)) : Tr (Bool) :=
  (.bind (zvu a0) fun v1 =>
  (.leaf v1.1))
def zja (a0 : (List Deed)) : Option (Bool) := (zkw a0).run
def zavi : LQ ((List Deed)) := (Par.q deedsP)
def qr_top_TopTokens : LQ (Bool) := (Par.q boolP)
def z4t : SpecT := zt 0 zavi 1 [] (fun s => zkw s) default qr_top_TopTokens 1 []
theorem z2u : zg Tryz.prog 4 (z4t).spec :=
  zd (A := za5g) za5f Facts.mix Tryz.func4 (c := za5c) (by kernel_rfl) (Lc := 0) trivial zavi 1 3 [] (fun s => zkw s) default qr_top_TopTokens 1 [] [] (by decide) (by kernel_rfl) (by rfl) (by decide) (by decide) (by rfl)
    (by rintro a0; kernel_rfl)
noncomputable def zaqy : Code := Tryz.f22.body.getD .skip
def zavj : List (List Nat) := [[0], [0, 7], [0, 7, 8], [0, 7, 8, 13], [0, 7, 8], [0, 7, 8, 9], [0, 7, 8, 41], [6], [6]]
noncomputable def zavk : EnvT := ⟨Tryz.prog, zq [(19, zgj), (23, zgk), (24, ze7), (25, zb0)]⟩
theorem zavl : (zavk).Ok := zc ⟨zkt, zkv, zf8, zca, trivial⟩
def zde (x0 : Int) (x1 : Wld) (x2 : za) : Tr ((Int × Wld × za) ⊕ ((Bool × Wld) ⊕ (Wld × za))) :=
  (.ite (decide (x0 < 2))
    (.bind (zbc x0 x1) fun v2 =>
    (.guard ((zam v2.1).isSome = true)
    (.guard (((!((zam v2.1).getD default)) = false → ((0 : Int) ≤ x0 ∧ (x0 : Int) < 2) ∧ True))
    (.guard ((((!((zam v2.1).getD default)) || (!(v2.1.On == (x2.Links.On.get x0)))) = false → ((0 : Int) ≤ x0 ∧ (x0 : Int) < 2) ∧ True))
    (.ite (((!((zam v2.1).getD default)) || (!(v2.1.On == (x2.Links.On.get x0)))) || (!(v2.1.Gone == (x2.Links.Gone.get x0))))
      (.leaf (.inr (.inl (false, v2.2))))
      (.leaf (.inl (IntKind.i64.wrap (x0 + 1), v2.2, x2))))))))
    (.leaf (.inr (.inr (x1, x2)))))
def zjl (x0 : Int) (x1 : Wld) (x2 : za) : Option ((Bool × Wld) ⊕ (Wld × za)) := zel (fun s : Int × Wld × za => (zde s.1 s.2.1 s.2.2).run) (x0, x1, x2)
def zavm : Ann := ⟨[], [], [], zavj, []⟩
def zavn : EndD (Int × Wld × za) := ⟨(LQ.skip (LQ.const (.ptr 0 0)) (LQ.skip (LQ.const (.ptr 1 0)) (LQ.seq (Par.q intP) (LQ.seq (LP.q zst) (LP.q providerL))))), ⟨[0, 7, 8], []⟩, [.cells 109 159, .cells 61 97]⟩
def zalu : EndD (Bool × Wld) := ⟨(LQ.seq (Par.q boolP) (LP.q zst)), ⟨[6], []⟩, [.cells 109 159]⟩
def zalv : EndD (Wld × za) := ⟨(LQ.skip (LQ.const (.ptr 1 0)) (LQ.seq (LP.q zst) (LP.q providerL))), ⟨[7], []⟩, [.cells 109 159, .cells 61 97]⟩
def zaob : St → Option LR := L2 44 6 1 zavn .ret zalu (.exit 0) zalv (fun s => zde s.1 s.2.1 s.2.2)
theorem zavo : zu (zavk).env 1 (sub zaqy [0, 1, 0, 1, 1]) zaob :=
  zra (A := zavm) zavl Facts.mix trivial (k := zcw (sub zaqy [0, 1, 0, 1, 1])) (by kernel_rfl) rfl rfl (by rintro ⟨x0, x1, x2⟩; kernel_rfl)
def za5h : Ann := ⟨[([0, 1, 0, 1, 1], zaob)], [], [], zavj, []⟩
def zkx (a0 : Deed) (a1 : Reply) (a2 : Wld) : Tr (Bool × Wld) :=
  (.bind (zb3 a2) fun v1 =>
  (.two (zjl 0 v1.2 v1.1) (fun v3 =>
    (.leaf (v3.1, v3.2))) (fun v4 =>
    (.bind (zay v4.2) fun v5 =>
    (.leaf (v5, v4.1))))))
def zdg (a0 : Deed) (a1 : Reply) (a2 : Wld) : Option (Bool × Wld) := (zkx a0 a1 a2).run
def zavp : LQ (Deed × Reply × Wld) := (LQ.skip (LQ.const (.ptr 0 0)) (LQ.seq (Par.q (Par.ofLP deedL)) (LQ.seq (Par.q (Par.ofLP zyy)) (LP.q zst))))
def zud : LQ (Bool × Wld) := (LQ.seq (Par.q boolP) (LP.q zst))
def zvw : SpecT := zt 1 zavp 3 [.cells 109 159] (fun s => zkx s.1 s.2.1 s.2.2) default zud 1 [.cells 109 159]
theorem z2v : zg Tryz.prog 22 (zvw).spec :=
  zd (A := za5h) zavl Facts.mix Tryz.func22 (c := zaqy) (by kernel_rfl) (Lc := 1) ⟨zavo, trivial⟩ zavp 3 6 [.cells 109 159] (fun s => zkx s.1 s.2.1 s.2.2) default zud 1 [.cells 109 159] [.pubN 0] (by decide) (by kernel_rfl) (by rfl) (by decide) (by decide) (by rfl)
    (by rintro ⟨a0, a1, a2⟩; kernel_rfl)
noncomputable def zaqz : Code := Tryz.f17.body.getD .skip
def zavq : List (List Nat) := [[0, 1], [0, 1, 10], [4, 5], [0, 1, 6], [0, 1, 6, 7], [0, 1, 6, 7, 19], [0, 1, 6, 7], [0, 1, 6, 7, 8], [0, 1, 6, 7, 36], [4, 5], [4, 5]]
noncomputable def zavr : EnvT := ⟨Tryz.prog, zq [(15, zyp), (43, ztk), (29, zi9), (22, zvw)]⟩
theorem zavs : (zavr).Ok := zc ⟨z2i, zvp, zlm, z2v, trivial⟩
def zq5 (x0 : (List Deed)) (x1 : Int) (x2 : Wld) : Tr (((List Deed) × Int × Wld) ⊕ ((Bool × Wld) ⊕ (Wld))) :=
  (.ite ((decide (x1 < ((x0.length : Nat) : Int))) && (decide (x1 < 120)))
    (.guard ((0 : Int) ≤ x1 ∧ x1 < ((Sl.len (.deeds x0) : Nat) : Int))
    (.bind (zbd (x0.getD x1.toNat default) x2) fun v3 =>
    (.guard ((0 : Int) ≤ x1 ∧ x1 < ((Sl.len (.deeds x0) : Nat) : Int))
    (.guard ((zdg (x0.getD x1.toNat default) v3.1 v3.2).isSome = true)
    (.ite (!((zdg (x0.getD x1.toNat default) v3.1 v3.2).getD default).1)
      (.leaf (.inr (.inl (false, ((zdg (x0.getD x1.toNat default) v3.1 v3.2).getD default).2))))
      (.leaf (.inl (x0, IntKind.i64.wrap (x1 + 1), ((zdg (x0.getD x1.toNat default) v3.1 v3.2).getD default).2))))))))
    (.leaf (.inr (.inr x2))))
def zpr (x0 : (List Deed)) (x1 : Int) (x2 : Wld) : Option ((Bool × Wld) ⊕ (Wld)) := zel (fun s : (List Deed) × Int × Wld => (zq5 s.1 s.2.1 s.2.2).run) (x0, x1, x2)
def zavt : Ann := ⟨[], [], [], zavq, []⟩
def zavu : EndD ((List Deed) × Int × Wld) := ⟨(LQ.seq (Par.q deedsP) (LQ.skip (LQ.const (.fn 22 [])) (LQ.skip (LQ.const (.ptr 0 0)) (LQ.seq (Par.q intP) (LP.q zst))))), ⟨[0, 1, 6, 7], [.pub 0, .nilsl 0 (.deeds [])]⟩, [.cells 109 159]⟩
def zalw : EndD (Bool × Wld) := ⟨(LQ.skip (LQ.const (.ptr 0 0)) (LQ.seq (Par.q boolP) (LP.q zst))), ⟨[4, 5], [.pubB 4]⟩, [.cells 109 159]⟩
def zalx : EndD (Wld) := ⟨(LQ.skip (LQ.const (.ptr 0 0)) (LP.q zst)), ⟨[6], []⟩, [.cells 109 159]⟩
def zaoc : St → Option LR := L2 39 4 0 zavu .ret zalw (.exit 0) zalx (fun s => zq5 s.1 s.2.1 s.2.2)
theorem zavv : zu (zavr).env 0 (sub zaqz [0, 1, 0, 1, 1, 1]) zaoc :=
  zra (A := zavt) zavs Facts.mix trivial (k := zcw (sub zaqz [0, 1, 0, 1, 1, 1])) (by kernel_rfl) rfl rfl (by rintro ⟨x0, x1, x2⟩; kernel_rfl)
def za5i : Ann := ⟨[([0, 1, 0, 1, 1, 1], zaoc)], [], [], zavq, []⟩
def zky (a0 : (List Deed)) : Tr (Bool × Wld) :=
  (.bind (zq2) fun v1 =>
  (.ite (!v1)
    .fail
    (.bind (zmz) fun v2 =>
    (.two (zpr a0 0 v2) (fun v4 =>
      (.leaf (v4.1, v4.2))) (fun v5 =>
      (.leaf (true, v5)))))))
def zue (a0 : (List Deed)) : Option (Bool × Wld) := (zky a0).run
def zavw : LQ ((List Deed)) := (LQ.skipR (Par.q deedsP) (LQ.const (.fn 22 [])))
def zuf : LQ (Bool × Wld) := (LQ.skip (LQ.const (.ptr 0 0)) (LQ.seq (Par.q boolP) (LP.q zst)))
def zvx : SpecT := zt 0 zavw 2 [] (fun s => zky s) default zuf 2 [.cells 109 159]
theorem z2w : zg Tryz.prog 17 (zvx).spec :=
  zd (A := za5i) zavs Facts.mix Tryz.func17 (c := zaqz) (by kernel_rfl) (Lc := 0) ⟨zavv, trivial⟩ zavw 2 4 [] (fun s => zky s) default zuf 2 [.cells 109 159] [.pubB 4] (by decide) (by kernel_rfl) (by rfl) (by decide) (by decide) (by rfl)
    (by rintro a0; kernel_rfl)
noncomputable def za5j : Code := Tryz.f5.body.getD .skip
def za5k : List (List Nat) := [[0], [4], [2]]
noncomputable def za5l : EnvT := ⟨Tryz.prog, zq [(17, zvx)]⟩
theorem za5m : (za5l).Ok := zc ⟨z2w, trivial⟩
def za5n : Ann := ⟨[], [], [], za5k, []⟩
def zom (a0 : (List Deed)) : Tr (Bool) :=
  (.bind (zue a0) fun v1 =>
  (.leaf v1.1))
def zmh (a0 : (List Deed)) : Option (Bool) := (zom a0).run
def zavx : LQ ((List Deed)) := (Par.q deedsP)
def qr_top_TopGood : LQ (Bool) := (Par.q boolP)
def z85 : SpecT := zt 0 zavx 1 [] (fun s => zom s) default qr_top_TopGood 1 []
theorem z6l : zg Tryz.prog 5 (z85).spec :=
  zd (A := za5n) za5m Facts.mix Tryz.func5 (c := za5j) (by kernel_rfl) (Lc := 0) trivial zavx 1 3 [] (fun s => zom s) default qr_top_TopGood 1 [] [] (by decide) (by kernel_rfl) (by rfl) (by decide) (by decide) (by rfl)
    (by rintro a0; kernel_rfl)
end
end Go.Proofs.YtmakmlnfbdablaaGreat.Ab
