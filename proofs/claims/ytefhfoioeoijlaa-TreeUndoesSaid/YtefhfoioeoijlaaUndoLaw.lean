/- Plain laws of a tree of items: what is set back leaves it as it was. No program. -/
import Derived.Test.YtefhfoioeoijlaaTreeLaw
import Derived.Test.YtefhfoioeoijlaaSetD
set_option linter.unusedVariables false
set_option linter.unusedSimpArgs false
namespace Go.Proofs.Ytefhfoioeoijlaa
/-! ### set back -/
theorem putI_put {x y : Item} (e : x.node = y.node) : ∀ {L : List Item}, putI x (putI y L) = putI x L
  | [] => by simp [putI, e, ltS_irrefl]
  | z :: L => by
    by_cases h1 : ltS y.node z.node = true
    · simp [putI, h1, e, ltS_irrefl]
    · by_cases h2 : z.node = y.node
      · simp [putI, h1, h2, e, ltS_irrefl]
      · have ih := putI_put e (L := L)
        simp [putI, h1, h2, e, ih]
theorem putI_back {x : Item} : ∀ {L : List Item}, Srt L → x ∈ L → putI x L = L
  | y :: L, h, hx => by
    obtain ⟨h1, h2⟩ := List.pairwise_cons.1 h
    rcases List.mem_cons.1 hx with rfl | hx
    · simp [putI, ltS_irrefl]
    · have hl := h1 x hx
      have hn : ¬ y.node = x.node := ltS_ne hl
      simp [putI, ltS_asymm hl, hn, putI_back h2 hx]
theorem delI_put {y : Item} {n : Stamp} (e : y.node = n) {L : List Item} : delI n (putI y L) = delI n L := by
  subst e
  induction L with
  | nil => simp [putI, delI]
  | cons z L ih =>
    unfold delI at ih ⊢
    by_cases h1 : ltS y.node z.node = true
    · simp [putI, h1]
    · by_cases h2 : z.node = y.node
      · simp [putI, h2, ltS_irrefl]
      · simp only [putI, h1, h2, if_false, Bool.false_eq_true]
        simp only [List.filter_cons, h2, decide_false, Bool.not_false, if_true, ih]
theorem doI_kind {L : List Item} {o : OpD} (h : (doI L o).1.2.2 ≠ 0) : (doI L o).2 = L := by
  unfold doI at h ⊢
  split
  · rfl
  · split
    · rfl
    · rename_i h1 h2
      rw [if_neg h1, if_neg h2] at h
      exact absurd rfl h
/-- What an operation told, set back, leaves the items as they were. -/
theorem undo_is {L : List Item} {o : OpD} (hs : Srt L) (h : (doI L o).1.2.2 = 0) : (doI L o).1.2.1 = hasI L o.node ∧ (doI L o).1.1 = gotI L o.node ∧ rightB o = true ∧
    (∀ x : Item, x.node = o.node → (hasI L o.node = true → x = gotI L o.node) → setT x (hasI L o.node) (doI L o).2 = L) := by
  unfold doI at h ⊢
  by_cases h1 : rightB o = false
  · rw [if_pos h1] at h; cases h
  · rw [if_neg h1] at h ⊢
    by_cases h2 : (nowI L (gotI L o.node) o).2 = true ∧ hasI L o.node = false ∧ 300 ≤ L.length
    · rw [if_pos h2] at h; cases h
    · rw [if_neg h2]
      refine ⟨rfl, rfl, by simpa using h1, fun x hx hg => ?_⟩
      show setT x (hasI L o.node) (if (nowI L (gotI L o.node) o).2 = true then putI (nowI L (gotI L o.node) o).1 L else L) = L
      cases hh : hasI L o.node with
      | true =>
        have hxe := hg hh
        have hxL : x ∈ L := by
          unfold hasI at hh; unfold gotI at hxe
          cases hk : getI L o.node with
          | none => rw [hk] at hh; cases hh
          | some y => rw [hk] at hxe; rw [hxe]; exact (getI_some hk).1
        simp only [setT, if_true]
        split
        · rename_i hn
          rw [putI_put (by rw [hx, nowI_node hn]), putI_back hs hxL]
        · exact putI_back hs hxL
      | false =>
        have hk : getI L o.node = none := by
          unfold hasI at hh
          cases hk : getI L o.node with
          | none => rfl
          | some y => rw [hk] at hh; cases hh
        simp only [setT, Bool.false_eq_true, if_false, hx]
        split
        · rename_i hn
          rw [delI_put (nowI_node hn), delI_none (getI_none.1 hk)]
        · exact delI_none (getI_none.1 hk)
end Go.Proofs.Ytefhfoioeoijlaa
