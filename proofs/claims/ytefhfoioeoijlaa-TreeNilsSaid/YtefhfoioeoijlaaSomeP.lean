/- The pieces of a walk over a tree's keys in order. -/
import Derived.Test.YtefhfoioeoijlaaSeq
import Derived.Test.YtefhfoioeoijlaaSetP
set_option linter.unusedVariables false
set_option linter.unusedSimpArgs false
namespace Go.Proofs.Ytefhfoioeoijlaa
open Go Go.RowKit Go.Sort Go.Shelf

theorem sorted_sl {B : Nat} {w : World} {Bm tb r : Nat} {L : List Item} (h : TreeIs B w tb r L) (hB : w.cell? ⟨Bm, 0, none⟩ = some (.map (some r))) :
    Calls Try.prog 87 #[.func (.func 110) #[] #[.pointer (some ⟨Bm, 0, none⟩)], .func (.func 89) #[] #[]] w fun e w' => ∃ A c, e = .returned (.slice A L.length c) ∧ SRow w' (.slice A L.length c) (L.map (·.node)) ∧ Up w w' := by
  refine (sorted_at h.2.2.2.1 (by have := h.2.2.2.2; omega) hB).mono ?_
  rintro e w' ⟨v, rfl, hr, u⟩
  obtain ⟨A, c, rfl, h2⟩ := hr
  rw [List.length_map] at *
  exact ⟨A, c, rfl, ⟨A, c, by rw [List.length_map], h2⟩, u⟩
theorem SRow.item {w : World} {A : Option Addr} {n c i : Nat} {L : List Item} {x : Item} (h : SRow w (.slice A n c) (L.map (·.node))) (hx : L[i]? = some x) :
    ∃ g, A = some ⟨g, 0, none⟩ ∧ g < w.heap.size ∧ w.cell? ⟨g, i * 2, none⟩ = some (.int .i64 x.node.t) ∧ w.cell? ⟨g, i * 2 + 1, none⟩ = some (.int .i64 x.node.w) := by
  obtain ⟨A', c', e, h⟩ := h
  injection e with e1 _ _
  subst e1
  exact h i x.node (by rw [List.getElem?_map, hx]; rfl)
section
variable {P : Program} {d : Option Tmp} {ty : TypeId} {pos : String} {af : Array Edge} {g : Option (Nat × Bool)} {ρ : Operand → Value} {w : World}
theorem r_loadc2 {t : TypeId} {x : Operand} {b k : Nat} {u v : Value} (hx : ρ x = .pointer (some ⟨b, k, none⟩)) (ht : ∀ w, (isAgg t).run P w = .ok true w) (hs : ∀ w, (sizeOf t).run P w = .ok 2 w)
    (h0 : w.cell? ⟨b, k, none⟩ = some u) (h1 : w.cell? ⟨b, k + 1, none⟩ = some v) : (execOp ρ ⟨d, .load t x, ty, pos, af, g⟩).run P w = .ok (.value (.agg #[u, v])) w := by
  have := run_loadCells_list (P := P) w ⟨b, k, none⟩ [u, v] (fun j y hj => by
    rw [add_at]
    match j, hj with
    | 0, hj => simp at hj; subst hj; exact h0
    | 1, hj => simp at hj; subst hj; exact h1
    | j + 2, hj => simp at hj)
  simp at this
  simp [execOp, hx, Instr.loadAt, Instr.sureAddr, loadVar, ht, hs, this]
end
theorem gotI_idx {L : List Item} (hs : Srt L) {k : Nat} {x : Item} (hx : L[k]? = some x) : gotI L x.node = x := by
  unfold gotI
  cases hg : getI L x.node with
  | none =>
    have hm : x ∈ L := List.mem_of_getElem? hx
    unfold getI at hg
    have := List.find?_eq_none.1 hg x hm
    simp at this
  | some y =>
    obtain ⟨h1, h2⟩ := getI_some hg
    exact hs.unique h1 (List.mem_of_getElem? hx) h2
theorem IRow.ne_fresh {T : TypeId} {B base b : Nat} {w : World} {v : Value} {L : List Item} (h : IRow T B base w v L) (e : b = w.heap.size) : v.ownBlock ≠ some b := by
  obtain ⟨ds, _, _, ho⟩ := h
  rcases ho with ⟨rfl, _⟩ | ⟨g, cap, cur, rfl, _, hg, _⟩
  · intro e; cases e
  · intro e'
    injection e' with e'
    have e' : g = b := e'
    have := (Array.getElem?_eq_some_iff.1 hg).1
    omega
theorem IRow.chgn {T : TypeId} {B base b : Nat} {w w' : World} {v : Value} {L : List Item} (h : IRow T B base w v L) (c : Chg w w' b) (hd : B ≤ b ∧ NotU8 w b) (hn : v.ownBlock ≠ some b) : IRow T B base w' v L :=
  h.keep c (.inr hn) (fun k e => by injection e with e; subst e; exact hd)
theorem own_sl {B : Nat} {w : World} {x : Item} {d : Value} (hB : B ≤ w.heap.size) (h : Dat B w d x.data) :
    Calls Try.prog 56 #[itV x d] w fun e w' => ∃ A n c, e = .returned (itV x (.slice A n c)) ∧ Dat B w' (.slice A n c) x.data ∧ Up w w' := by
  refine (own_any hB h).mono ?_
  rintro e w' ⟨d', rfl, hD, u⟩
  obtain ⟨A, n, c, rfl⟩ := hD.form
  exact ⟨A, n, c, rfl, hD, u⟩
theorem kid_yes {L : List Item} {n : Stamp} {k : Nat} {x : Item} (h : L[k]? = some x) (e : (decide (x.parent = n) && !x.gone) = true) : kidsI n (L.take (k + 1)) = kidsI n (L.take k) ++ [x] := by
  simp at e; exact kids_yes h e.1 e.2
theorem kid_no {L : List Item} {n : Stamp} {k : Nat} {x : Item} (h : L[k]? = some x) (e : (decide (x.parent = n) && !x.gone) = false) : kidsI n (L.take (k + 1)) = kidsI n (L.take k) := by
  refine kids_no h ?_
  rw [Bool.and_eq_false_iff] at e
  rcases e with e | e
  · exact .inl (of_decide_eq_false e)
  · simp at e; exact .inr e
end Go.Proofs.Ytefhfoioeoijlaa
