/-
  The walk over abstract states.
-/
import Derived.Test.YtmakmlnfbdablaaGreatXAbFun
import Derived.Test.YtmakmlnfbdablaaGreatXAbStructs
namespace Go.Proofs.YtmakmlnfbdablaaGreat.Ab
open Go Go.RowKit
set_option linter.unusedSimpArgs false
set_option linter.unusedVariables false
open Classical in
noncomputable def roO {β : Type} (o : Option β) (p : β → Prop) : Option β := o.bind fun r => if p r then some r else none
theorem zaok {β : Type} {o : Option β} {p : β → Prop} {r : β} (h : roO o p = some r) : o = some r ∧ p r := by
  unfold roO at h
  cases o with
  | none => cases h
  | some x =>
    simp only [Option.bind_some] at h
    split at h
    · rename_i hp; simp only [Option.some.injEq] at h; subst h; exact ⟨rfl, hp⟩
    · cases h
theorem zawl {β : Type} {p : β → Prop} {r : β} (h : p r) : roO (some r) p = some r := by unfold roO; simp [h]
def zai9 (bk : Nat → Blk) : List (Nat × Blk) → Prop
  | [] => True
  | p :: l => (bk p.1 = p.2 ∧ p.2.live = true) ∧ zai9 bk l
theorem zahe {bk : Nat → Blk} : ∀ (bs : List (Nat × Blk)) (blks : List Blk), (∀ j, bk j = blks.getD j .dead ∨ bk j = .dead) → zai9 bk bs → upd blks bs = blks
  | [], _, _, _ => rfl
  | p :: bs, blks, hbk, h => by
    obtain ⟨⟨h1, h2⟩, h3⟩ := h
    have e : blks.getD p.1 .dead = p.2 := by
      rcases hbk p.1 with k | k
      · rw [← k]; exact h1
      · rw [← h1, k] at h2; cases h2
    have hl : p.1 < blks.length := by
      rcases Nat.lt_or_ge p.1 blks.length with k | k
      · exact k
      · rw [List.getD_eq_getElem?_getD, List.getElem?_eq_none k] at e
        rw [← e] at h2; cases h2
    have es : blks.set p.1 p.2 = blks := by
      rw [← e, List.getD_eq_getElem?_getD, List.getElem?_eq_getElem hl]
      exact List.set_getElem_self hl
    show upd (blks.set p.1 p.2) bs = blks
    rw [es]
    exact zahe bs blks hbk h3
noncomputable def roT (F : SpecT) : SpecT := fun args bk id => match F args bk id with
  | some c => some ⟨c.β, roO c.o (fun r => zai9 bk (c.bs r)), c.d, c.v, fun _ => []⟩
  | none => none
theorem zark {P : Program} {f : FuncId} {F : SpecT} (h : zj P f F.spec) : zj P f (roT F).spec := by
  intro G blks nu w hm args vs hvs bk hbk id r hr hobl
  unfold SpecT.spec roT at hr
  cases hF : F args bk id with
  | none => simp [hF] at hr
  | some c =>
    simp only [hF, Option.some.injEq] at hr
    subst hr
    obtain ⟨r0, h0⟩ := Option.isSome_iff_exists.1 hobl.1
    obtain ⟨hc, hp⟩ := zaok h0
    have hs : F.spec args bk id = some c.res := by unfold SpecT.spec; rw [hF]
    have hr := z9v hc
    have hobl' : zzo c.res.obl := by rw [hr]; exact ⟨by rw [hc]; rfl, trivial⟩
    have hcall := h G blks nu w hm args vs hvs bk hbk id c.res hs hobl'
    have hv : CR.res ⟨c.β, roO c.o (fun r => zai9 bk (c.bs r)), c.d, c.v, fun _ => []⟩ = ⟨[(roO c.o (fun r => zai9 bk (c.bs r))).isSome = true], c.v r0, []⟩ := by
      unfold CR.res
      simp only [show roO c.o (fun r => zai9 bk (c.bs r)) = some r0 from h0, Option.getD_some]
    rw [hv]
    refine hcall.mono ?_
    rintro x w' ⟨v, hx, nu', k1, k2, k3⟩
    rw [hr] at k1 k2 k3
    simp only [zahe _ _ hbk hp] at k1 k2 k3
    exact ⟨v, hx, nu', k1, k2, k3⟩
def roW (T : TypeId) (w w' : Wld) : Prop := (Blk.cells T (wldL.e w) = Blk.cells T (wldL.e w') ∧ (Blk.cells T (wldL.e w')).live = true) ∧ True
noncomputable def z8o {α : Type} (T : TypeId) (w : Wld) (o : Option (α × Wld)) : Option (α × Wld) := roO o (fun r => roW T w r.2)
theorem zaar {α : Type} {T : TypeId} {w : Wld} {o : Option (α × Wld)} {x : α} (h : o = some (x, w)) : z8o T w o = some (x, w) := by
  unfold z8o; rw [h]; exact zawl ⟨⟨rfl, rfl⟩, trivial⟩
end Go.Proofs.YtmakmlnfbdablaaGreat.Ab
