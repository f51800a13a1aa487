/- The document's Set as a fold over the list, and what it comes to; no program. -/
import Derived.Test.YtefhfoioeoijlaaIRow
set_option linter.unusedVariables false
set_option linter.unusedSimpArgs false
namespace Go.Proofs.Ytefhfoioeoijlaa
open Go.RowKit

def stepI (it : Item) (p : List Item × Bool) (x : Item) : List Item × Bool :=
  if (!p.2 && lessS it.node x.node) = true then (if x.node = it.node then (p.1 ++ [it], true) else (p.1 ++ [it] ++ [x], true))
  else (if x.node = it.node then p else (p.1 ++ [x], p.2))
def foldI (it : Item) (there : Bool) (L : List Item) : List Item × Bool := L.foldl (stepI it) ([], !there)
def setI (it : Item) (there : Bool) (L : List Item) : List Item := if (foldI it there L).2 then (foldI it there L).1 else (foldI it there L).1 ++ [it]
theorem fold1 {it : Item} {there : Bool} {L : List Item} {k : Nat} {x : Item} (h : L[k]? = some x) : foldI it there (L.take (k + 1)) = stepI it (foldI it there (L.take k)) x := by
  unfold foldI; rw [tk h, List.foldl_append]; rfl
section
variable {it x : Item} {p : List Item × Bool}
theorem step_in (hi : p.2 = true) (hn : x.node ≠ it.node) : stepI it p x = (p.1 ++ [x], true) := by simp [stepI, hi, hn]
theorem step_in' (hi : p.2 = true) (hn : x.node = it.node) : stepI it p x = (p.1, true) := by cases p; simp at hi; simp [stepI, hi, hn]
theorem step_lt (hi : p.2 = false) (hl : lessS it.node x.node = true) (hn : x.node ≠ it.node) : stepI it p x = (p.1 ++ [it] ++ [x], true) := by simp [stepI, hi, hl, hn]
theorem step_lt' (hi : p.2 = false) (hl : lessS it.node x.node = true) (hn : x.node = it.node) : stepI it p x = (p.1 ++ [it], true) := by unfold stepI; rw [hi, hl, if_pos (by rfl), if_pos hn]
theorem step_ge (hi : p.2 = false) (hl : lessS it.node x.node = false) (hn : x.node ≠ it.node) : stepI it p x = (p.1 ++ [x], false) := by simp [stepI, hi, hl, hn]
theorem step_ge' (hi : p.2 = false) (hl : lessS it.node x.node = false) (hn : x.node = it.node) : stepI it p x = (p.1, false) := by unfold stepI; rw [if_neg (by rw [hi, hl]; simp), if_pos hn]; cases p; simp at hi; rw [hi]
end
theorem lessS_eq (a b : Stamp) : lessS a b = ltS a b := rfl
theorem fold_in (it : Item) : ∀ (L acc : List Item), L.foldl (stepI it) (acc, true) = (acc ++ L.filter (fun x => !decide (x.node = it.node)), true)
  | [], acc => by simp
  | x :: L, acc => by
    rw [List.foldl_cons]
    by_cases h : x.node = it.node
    · rw [step_in' rfl h, fold_in it L]; simp [h]
    · rw [step_in rfl h, fold_in it L]; simp [h]
theorem filter_none {it : Item} {L : List Item} (h : ∀ x ∈ L, x.node ≠ it.node) : L.filter (fun x => !decide (x.node = it.node)) = L := by
  rw [List.filter_eq_self]; intro x hx; simpa using h x hx
theorem fold_out (it : Item) : ∀ (L acc : List Item), Srt L → (let p := L.foldl (stepI it) (acc, false); if p.2 then p.1 else p.1 ++ [it]) = acc ++ putI it L
  | [], acc, _ => by simp [putI]
  | x :: L, acc, h => by
    obtain ⟨h1, h2⟩ := List.pairwise_cons.1 h
    rw [List.foldl_cons]
    by_cases hl : lessS it.node x.node = true
    · have hn : x.node ≠ it.node := fun e => by rw [e, lessS_eq, ltS_irrefl] at hl; cases hl
      rw [step_lt rfl hl hn, fold_in]
      have hno : ∀ y ∈ L, y.node ≠ it.node := fun y hy e => by
        have a := h1 y hy
        rw [e] at a
        rw [lessS_eq] at hl
        rw [ltS_asymm a] at hl; cases hl
      simp only [if_true]
      rw [filter_none hno]
      simp only [putI]
      rw [if_pos (by rw [← lessS_eq]; exact hl)]
      simp
    · have hl' : lessS it.node x.node = false := by simpa using hl
      by_cases hn : x.node = it.node
      · rw [step_ge' rfl hl' hn]
        have hall : ∀ y ∈ L, lessS it.node y.node = true := fun y hy => by rw [← hn]; exact h1 y hy
        have hput : putI it (x :: L) = it :: L := by simp only [putI]; rw [if_neg (by rw [← lessS_eq, hl']; simp), if_pos hn]
        rw [hput]
        cases L with
        | nil => simp
        | cons y M =>
          have hy := hall y (by simp)
          have hyn : y.node ≠ it.node := fun e => by rw [e, lessS_eq, ltS_irrefl] at hy; cases hy
          rw [List.foldl_cons, step_lt rfl hy hyn, fold_in]
          have hno : ∀ z ∈ M, z.node ≠ it.node := fun z hz e => by
            have := hall z (by simp [hz]); rw [e, lessS_eq, ltS_irrefl] at this; cases this
          simp only [if_true]
          rw [filter_none hno]; simp
      · rw [step_ge rfl hl' hn]
        have := fold_out it L (acc ++ [x]) h2
        have hput : putI it (x :: L) = x :: putI it L := by simp only [putI]; rw [if_neg (by rw [← lessS_eq, hl']; simp), if_neg hn]
        simp only at this ⊢
        rw [this, hput]
        simp
theorem setI_true {it : Item} {L : List Item} (h : Srt L) : setI it true L = putI it L := by
  have := fold_out it L [] h
  simpa [setI, foldI] using this
theorem setI_false (it : Item) (L : List Item) : setI it false L = delI it.node L := by
  simp [setI, foldI, fold_in, delI]
theorem setI_in {it : Item} {there : Bool} {L : List Item} (h : (foldI it there L).2 = true) : setI it there L = (foldI it there L).1 := by unfold setI; rw [h]; rfl
theorem setI_out {it : Item} {there : Bool} {L : List Item} (h : (foldI it there L).2 = false) : setI it there L = (foldI it there L).1 ++ [it] := by unfold setI; rw [h]; rfl
theorem fold_len (it : Item) : ∀ (L : List Item) (p : List Item × Bool), (L.foldl (stepI it) p).1.length ≤ p.1.length + 2 * L.length
  | [], p => by simp
  | x :: L, p => by
    rw [List.foldl_cons]
    refine Nat.le_trans (fold_len it L _) ?_
    have : (stepI it p x).1.length ≤ p.1.length + 2 := by unfold stepI; split <;> split <;> simp
    simp only [List.length_cons]; omega
theorem foldI_len (it : Item) (there : Bool) (L : List Item) : (foldI it there L).1.length ≤ 2 * L.length := by
  have := fold_len it L ([], !there); simpa [foldI] using this
theorem kids_next {L : List Item} {n : Stamp} {k : Nat} {x : Item} (h : L[k]? = some x) : (L.take (k + 1)).filter (fun x => decide (x.parent = n) && !x.gone) = (L.take k).filter (fun x => decide (x.parent = n) && !x.gone) ++ (if (decide (x.parent = n) && !x.gone) = true then [x] else []) := by
  rw [tk h, List.filter_append]; congr 1
  by_cases hb : (decide (x.parent = n) && !x.gone) = true
  · rw [if_pos hb]; simp at hb; simp [hb]
  · rw [if_neg hb]; simp at hb; simp; exact hb
def kidsI (n : Stamp) (L : List Item) : List Item := L.filter fun x => decide (x.parent = n) && !x.gone
theorem kids_yes {L : List Item} {n : Stamp} {k : Nat} {x : Item} (h : L[k]? = some x) (h1 : x.parent = n) (h2 : x.gone = false) : kidsI n (L.take (k + 1)) = kidsI n (L.take k) ++ [x] := by
  unfold kidsI; rw [kids_next h, if_pos (by simp [h1, h2])]
theorem kids_no {L : List Item} {n : Stamp} {k : Nat} {x : Item} (h : L[k]? = some x) (h1 : x.parent ≠ n ∨ x.gone = true) : kidsI n (L.take (k + 1)) = kidsI n (L.take k) := by
  unfold kidsI; rw [kids_next h, if_neg (by rcases h1 with h1 | h1 <;> simp [h1])]; simp
theorem kids_len (n : Stamp) (L : List Item) : (kidsI n L).length ≤ L.length := List.length_filter_le _ _
theorem IRow.chg' {T : TypeId} {B base : Nat} {w w' : World} {v : Value} {L : List Item} {b : Nat} (h : IRow T B base w v L) (c : Chg w w' b) (hb : B ≤ b ∧ NotU8 w b) (hne : b < base) : IRow T B base w' v L :=
  h.chg c hb.1 hb.2 (h.ne_old hne)
/-- The document's tree, whose row lies from base on. -/
def RIb (B base : Nat) (w : World) (ub : Nat) (L : List Item) : Prop :=
  B ≤ ub ∧ ∃ v, w.heap[ub]? = some (.cells #[v] 32 (0, 0)) ∧ IRow 41 B base w v L ∧ v.ownBlock ≠ some ub ∧ L.length ≤ 300
theorem RIb.ris {B base : Nat} {w : World} {ub : Nat} {L : List Item} (h : RIb B base w ub L) (hB : B ≤ base) : RIs B w ub L := by
  obtain ⟨h0, v, h1, h2, h3, h4⟩ := h; exact ⟨h0, v, h1, by rw [rowI_is]; exact h2.base hB, h3, h4⟩
theorem RIb.up {B base : Nat} {w w' : World} {ub : Nat} {L : List Item} (h : RIb B base w ub L) (u : Up w w') : RIb B base w' ub L := by
  obtain ⟨h0, v, h1, h2, h3, h4⟩ := h; exact ⟨h0, v, up_ob u h1, h2.up u, h3, h4⟩
theorem RIb.chg {B base : Nat} {w w' : World} {ub b : Nat} {L : List Item} (h : RIb B base w ub L) (c : Chg w w' b) (hb : B ≤ b ∧ NotU8 w b) (hne : ub ≠ b) (hlt : b < base) : RIb B base w' ub L := by
  obtain ⟨h0, v, h1, h2, h3, h4⟩ := h; exact ⟨h0, v, chg_ob c hne h1, h2.chg' c hb hlt, h3, h4⟩
end Go.Proofs.Ytefhfoioeoijlaa
