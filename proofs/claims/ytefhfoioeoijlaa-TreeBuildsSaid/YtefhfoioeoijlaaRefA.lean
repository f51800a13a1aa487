/- The document's tree: a slice of items in memory. -/
import Derived.Test.YtefhfoioeoijlaaTreeI
set_option linter.unusedVariables false
set_option linter.unusedSimpArgs false
namespace Go.Proofs.Ytefhfoioeoijlaa
open Go.RowKit Go.Sort

def flatI : List Item → List Value → List Value
  | x :: L, d :: ds => itC x d ++ flatI L ds
  | _, _ => []
theorem flatI_snoc : ∀ {L : List Item} {ds : List Value} (x : Item) (d : Value), L.length = ds.length → flatI (L ++ [x]) (ds ++ [d]) = flatI L ds ++ itC x d
  | [], [], x, d, _ => by simp [flatI]
  | y :: L, e :: ds, x, d, h => by simp [flatI, flatI_snoc x d (by simpa using h : L.length = ds.length)]
theorem flatI_length : ∀ {L : List Item} {ds : List Value}, L.length = ds.length → (flatI L ds).length = L.length * 10
  | [], [], _ => rfl
  | y :: L, e :: ds, h => by
    have := flatI_length (by simpa using h : L.length = ds.length)
    simp [flatI, itC, this]; omega
theorem flatI_get : ∀ {L : List Item} {ds : List Value} {i k : Nat} {x : Item} {d : Value}, L[i]? = some x → ds[i]? = some d → k < 10 → (flatI L ds)[i * 10 + k]? = (itC x d)[k]?
  | y :: L, e :: ds, 0, k, x, d, h1, h2, hk => by
    simp at h1 h2
    subst h1; subst h2
    simp only [flatI, Nat.zero_mul, Nat.zero_add]
    rw [List.getElem?_append_left (by simpa [itC] using hk)]
  | y :: L, e :: ds, i + 1, k, x, d, h1, h2, hk => by
    simp only [flatI]
    rw [List.getElem?_append_right (by simp [itC]; omega)]
    rw [show (i + 1) * 10 + k - (itC y e).length = i * 10 + k by simp [itC]; omega]
    exact flatI_get (by simpa using h1) (by simpa using h2) hk

/-- A slice of items (the document's), and where their bytes lie. -/
def RowI (B base : Nat) (w : World) (v : Value) (L : List Item) : Prop :=
  ∃ ds, Pair (fun x d => Dat B w d x.data) L ds ∧ w.ownsRow base 41 10 v L.length (flatI L ds)

theorem RowI.nil (B base : Nat) (w : World) : RowI B base w (.slice none 0 0) [] := ⟨[], trivial, World.ownsRow_nil w base _ 10⟩

/-- The document's tree: one cell that holds such a slice. -/
def RIs (B : Nat) (w : World) (ub : Nat) (L : List Item) : Prop :=
  B ≤ ub ∧ ∃ v, w.heap[ub]? = some (.cells #[v] 32 (0, 0)) ∧ RowI B B w v L ∧ v.ownBlock ≠ some ub ∧ L.length ≤ 300

theorem Pair.ex : ∀ {α β : Type} {R : α → β → Prop} {ps : List α} {qs : List β} {k : Nat} {a : α}, Pair R ps qs → ps[k]? = some a → ∃ b, qs[k]? = some b ∧ R a b
  | _, _, R, a :: ps, b :: qs, 0, x, h, h1 => by simp at h1; subst h1; exact ⟨b, by simp, h.1⟩
  | _, _, R, a :: ps, b :: qs, k + 1, x, h, h1 => by
    obtain ⟨c, h2, h3⟩ := Pair.ex (k := k) h.2 (by simpa using h1)
    exact ⟨c, by simpa using h2, h3⟩

theorem RowI.keep {B base : Nat} {w w' : World} {v : Value} {L : List Item} (h : RowI B base w v L) {q : Option Nat} (hg : w.grownBy w' q) (hv : v.ownBlock = none ∨ v.ownBlock ≠ q)
    (hq : ∀ k, q = some k → B ≤ k ∧ NotU8 w k) : RowI B base w' v L := by
  obtain ⟨ds, hp, ho⟩ := h
  refine ⟨ds, hp.mono fun x d hd => ?_, ho.kept hg hv⟩
  cases q with
  | none => exact hd.keep hg.size fun b hb _ => hg.block b hb (by simp)
  | some k => exact hd.grown hg (hq k rfl).1 (hq k rfl).2
theorem RowI.up {B base : Nat} {w w' : World} {v : Value} {L : List Item} (h : RowI B base w v L) (hb : Below w.heap.size w w') : RowI B base w' v L :=
  h.keep (q := none) ⟨hb.os, hb.tape, hb.output, hb.size, fun k hk _ => hb.block k hk⟩ (by cases hv : v.ownBlock <;> simp) (by simp)
theorem RowI.form {B base : Nat} {w : World} {v : Value} {L : List Item} (h : RowI B base w v L) : ∃ A c, v = .slice A L.length c := by
  obtain ⟨ds, _, _, ⟨rfl, h0⟩ | ⟨g, cap, cur, rfl, _⟩⟩ := h
  · exact ⟨none, 0, by rw [h0]⟩
  · exact ⟨_, cap, rfl⟩
/-- Item number i, and its cells. -/
theorem RowI.get {B base : Nat} {w : World} {v : Value} {L : List Item} (h : RowI B base w v L) {i : Nat} {x : Item} (hi : L[i]? = some x) :
    ∃ g cap dA dn dc, v = .slice (some ⟨g, 0, none⟩) L.length cap ∧ L.length ≤ cap ∧ base ≤ g ∧ g < w.heap.size ∧ Dat B w (.slice dA dn dc) x.data ∧ ∀ k u, (itC x (.slice dA dn dc))[k]? = some u → w.cell? ⟨g, i * 10 + k, none⟩ = some u := by
  obtain ⟨ds, hp, ho⟩ := h
  obtain ⟨d, hd, hD⟩ := hp.ex hi
  obtain ⟨dA, dn, dc, rfl⟩ := hD.form
  have hil := (List.getElem?_eq_some_iff.1 hi).1
  rcases ho.2 with ⟨rfl, h0⟩ | ⟨g, cap, cur, rfl, hb, hg, hc, hm, hcs, htk⟩
  · omega
  · refine ⟨g, cap, dA, dn, dc, rfl, hc, hb, (Array.getElem?_eq_some_iff.1 hg).1, hD, fun k u hk => ?_⟩
    have hk10 : k < 10 := by have := (List.getElem?_eq_some_iff.1 hk).1; simpa [itC] using this
    have := ho.cells (g := g) rfl (i * 10 + k) u (by rw [flatI_get hi hd hk10]; exact hk)
    rwa [show (⟨g, 0, none⟩ : Addr).add (i * 10 + k) = ⟨g, i * 10 + k, none⟩ by unfold Addr.add; split <;> simp_all] at this

theorem RIs.up {B : Nat} {w w' : World} {ub : Nat} {L : List Item} (h : RIs B w ub L) (hb : Below w.heap.size w w') : RIs B w' ub L := by
  obtain ⟨h0, v, h1, h2, h3⟩ := h
  exact ⟨h0, v, (hb.block ub (Array.getElem?_eq_some_iff.1 h1).1).trans h1, h2.up hb, h3⟩

/-- The place of a stamp: -1: it is not there. -/
def idxI (L : List Item) (n : Stamp) : Nat := L.findIdx fun x => decide (x.node = n)
def placeI (L : List Item) (n : Stamp) : Int := if idxI L n < L.length then (idxI L n : Int) else -1
theorem placeI_at {L : List Item} {n : Stamp} {k : Nat} {x : Item} (hx : L[k]? = some x) (e : x.node = n) (h : ∀ (j : Nat) (y : Item), j < k → L[j]? = some y → y.node ≠ n) : placeI L n = k := by
  have hk := (List.getElem?_eq_some_iff.1 hx).1
  have : idxI L n = k := by
    unfold idxI
    rw [List.findIdx_eq hk]
    refine ⟨by have := (List.getElem?_eq_some_iff.1 hx).2; simp [this, e], fun j hj => ?_⟩
    have := h j L[j] hj (List.getElem?_eq_getElem (by omega))
    simp [this]
  unfold placeI
  rw [this, if_pos hk]
theorem placeI_none {L : List Item} {n : Stamp} (h : ∀ (j : Nat) (y : Item), L[j]? = some y → y.node ≠ n) : placeI L n = -1 := by
  unfold placeI
  rw [if_neg]
  intro hl
  have h1 := List.findIdx_getElem (w := hl)
  have := h _ _ (List.getElem?_eq_getElem hl)
  simp at h1
  exact this h1
end Go.Proofs.Ytefhfoioeoijlaa
