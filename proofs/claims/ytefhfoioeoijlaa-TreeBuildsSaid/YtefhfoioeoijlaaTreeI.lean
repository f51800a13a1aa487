/- The tree: what Do asks of make, move, remove, write, as one contract. -/
import Derived.Test.YtefhfoioeoijlaaTreeF
import Derived.Test.YtefhfoioeoijlaaOpD
import Derived.Test.YtefhfoioeoijlaaTreeG
import Derived.Test.YtefhfoioeoijlaaTreeH
set_option linter.unusedVariables false
set_option linter.unusedSimpArgs false
namespace Go.Proofs.Ytefhfoioeoijlaa
open Go.RowKit Go.Sort

theorem does_at {B : Nat} {w : World} {tb r : Nat} {L : List Item} (h : TreeIs B w tb r L) (hB : B ≤ w.heap.size) (o : OpD) (oA : Option Addr) (on oc : Nat) (hDo : Dat B w (.slice oA on oc) o.data)
    (x : Item) (xA : Option Addr) (xn xc : Nat) (hDx : Dat B w (.slice xA xn xc) x.data) (F : Nat) (hF : F = if o.kind = 1 then 53 else if o.kind = 2 then 54 else if o.kind = 3 then 55 else 52) :
    Calls Try.prog F #[trP tb, itV x (.slice xA xn xc), opV o (.slice oA on oc)] w fun e w' =>
      ∃ dA dn dc, e = .returned (.tuple #[itV (nowI L x o).1 (.slice dA dn dc), .bool (nowI L x o).2]) ∧ Dat B w' (.slice dA dn dc) (nowI L x o).1.data ∧ Below w.heap.size w w' := by
  unfold nowI
  by_cases h1 : o.kind = 1
  · rw [if_pos h1] at hF
    subst hF
    simp only [h1, if_true]
    refine (make_at h x o xA xn xc oA on oc).mono ?_
    rintro e w' ⟨rfl, hb⟩
    exact ⟨none, 0, 0, rfl, Dat.nil B w', hb⟩
  · rw [if_neg h1] at hF
    by_cases h2 : o.kind = 2
    · rw [if_pos h2] at hF
      subst hF
      simp only [h1, h2, if_true, if_false]
      refine (move_at h x o xA xn xc oA on oc).mono ?_
      rintro e w' ⟨rfl, hb⟩
      exact ⟨xA, xn, xc, by simp [h2], by simpa [h2] using hDx.up hb, hb⟩
    · rw [if_neg h2] at hF
      by_cases h3 : o.kind = 3
      · rw [if_pos h3] at hF
        subst hF
        refine (remove_at tb x o xA xn xc oA on oc).mono ?_
        rintro e w' ⟨rfl, hb⟩
        exact ⟨xA, xn, xc, by simp [h3], by simpa [h3] using hDx.up hb, hb⟩
      · rw [if_neg h3] at hF
        subst hF
        refine (write_at hB tb x o xA xn xc oA on oc hDo).mono ?_
        rintro e w' ⟨d', rfl, hD, hb⟩
        obtain ⟨dA, dn, dc, rfl⟩ := hD.form
        exact ⟨dA, dn, dc, by simp [h1, h2, h3], by simpa [h1, h2, h3] using hD, hb⟩

/-- What the operation comes to: the item as it was, whether it was there, the kind; and the items. -/
def doI (L : List Item) (o : OpD) : (Item × Bool × Int) × List Item :=
  if rightB o = false then ((nilI, false, 1), L)
  else if (nowI L (gotI L o.node) o).2 = true ∧ hasI L o.node = false ∧ 300 ≤ L.length then ((nilI, false, 3), L)
  else ((gotI L o.node, hasI L o.node, 0), if (nowI L (gotI L o.node) o).2 = true then putI (nowI L (gotI L o.node) o).1 L else L)

theorem nowI_node {L : List Item} {x : Item} {o : OpD} (h : (nowI L x o).2 = true) : (nowI L x o).1.node = o.node := by
  unfold nowI at h ⊢
  split at h
  · rename_i h1; simp [h1]
  · rename_i h1
    split at h
    · rename_i h2; simp [h2] at h ⊢; exact h.1
    · rename_i h2
      split at h
      · rename_i h3; simp [h3] at h ⊢; exact h
      · rename_i h3; simp [h1, h2, h3] at h ⊢; exact h.1

/-- Ten cells of a block that is known whole. -/
theorem item_cells {W : World} {b : Nat} {e : TypeId} {v0 v1 v2 v3 v4 v5 v6 v7 v8 v9 : Value} (h : W.heap[b]? = some (.cells #[v0, v1, v2, v3, v4, v5, v6, v7, v8, v9] e (0, 0))) :
    (W.cell? ⟨b, 0, none⟩ = some v0 ∧ W.cell? ⟨b, 1, none⟩ = some v1 ∧ W.cell? ⟨b, 2, none⟩ = some v2 ∧ W.cell? ⟨b, 3, none⟩ = some v3 ∧ W.cell? ⟨b, 4, none⟩ = some v4 ∧ W.cell? ⟨b, 5, none⟩ = some v5 ∧
     W.cell? ⟨b, 6, none⟩ = some v6 ∧ W.cell? ⟨b, 7, none⟩ = some v7 ∧ W.cell? ⟨b, 8, none⟩ = some v8 ∧ W.cell? ⟨b, 9, none⟩ = some v9) ∧ (∀ k, W.frozen? ⟨b, k, none⟩ = false) := by
  refine ⟨⟨?_, ?_, ?_, ?_, ?_, ?_, ?_, ?_, ?_, ?_⟩, fun k => ?_⟩ <;> simp [World.cell?, World.frozen?, h]
end Go.Proofs.Ytefhfoioeoijlaa
