/- Two sorted parts become one: the plain law of a merge by halves. No program. -/
import Derived.Test.YtefhfoioeoijlaaORow
set_option linter.unusedVariables false
set_option linter.unusedSimpArgs false
namespace Go.Proofs.Ytefhfoioeoijlaa

section
variable {α : Type} {lt : α → α → Prop}
/-- All of xs before all of ys. -/
def Ahead (lt : α → α → Prop) (xs ys : List α) : Prop := ∀ x ∈ xs, ∀ y ∈ ys, lt x y
theorem Ahead.perm {xs xs' ys ys' : List α} (h : Ahead lt xs ys) (hx : xs'.Perm xs) (hy : ys'.Perm ys) : Ahead lt xs' ys' := fun x hx' y hy' => h x (hx.mem_iff.1 hx') y (hy.mem_iff.1 hy')
theorem Ahead.app {xs ys zs us : List α} (h1 : Ahead lt xs zs) (h2 : Ahead lt xs us) (h3 : Ahead lt ys zs) (h4 : Ahead lt ys us) : Ahead lt (xs ++ ys) (zs ++ us) := fun x hx y hy => by
  rcases List.mem_append.1 hx with hx | hx <;> rcases List.mem_append.1 hy with hy | hy
  · exact h1 x hx y hy
  · exact h2 x hx y hy
  · exact h3 x hx y hy
  · exact h4 x hx y hy
/-- C is A and B in order. -/
def Merged (lt : α → α → Prop) (A B C : List α) : Prop := C.Pairwise lt ∧ C.Perm (A ++ B)
theorem Merged.step {A1 A2 B1 B2 C1 C2 : List α} (h : Ahead lt (A1 ++ B1) (A2 ++ B2)) (h1 : Merged lt A1 B1 C1) (h2 : Merged lt A2 B2 C2) : Merged lt (A1 ++ A2) (B1 ++ B2) (C1 ++ C2) := by
  refine ⟨List.pairwise_append.2 ⟨h1.1, h2.1, fun x hx y hy => h x (h1.2.mem_iff.1 hx) y (h2.2.mem_iff.1 hy)⟩, ?_⟩
  refine (h1.2.append h2.2).trans ?_
  rw [List.append_assoc, List.append_assoc]
  refine List.Perm.append_left A1 ?_
  rw [← List.append_assoc, ← List.append_assoc]
  exact (List.perm_append_comm).append_right B2
theorem Merged.nil_right {A : List α} (h : A.Pairwise lt) : Merged lt A [] A := ⟨h, by simp⟩
theorem Merged.nil_left {B : List α} (h : B.Pairwise lt) : Merged lt [] B B := ⟨h, by simp⟩
/-- Where the search ends: the last of A1 is before the first of B2, the last of B1 before the first of A2. -/
theorem parts_ahead {A1 A2 B1 B2 : List α} (ht : ∀ x y z, lt x y → lt y z → lt x z) (hA : (A1 ++ A2).Pairwise lt) (hB : (B1 ++ B2).Pairwise lt)
    (h1 : ∀ x y, A1.getLast? = some x → B2.head? = some y → lt x y) (h2 : ∀ x y, B1.getLast? = some x → A2.head? = some y → lt x y) : Ahead lt (A1 ++ B1) (A2 ++ B2) := by
  have key : ∀ {P Q : List α}, P.Pairwise lt → Q.Pairwise lt → (∀ x y, P.getLast? = some x → Q.head? = some y → lt x y) → Ahead lt P Q := by
    intro P Q hP hQ h x hx y hy
    obtain ⟨l, hl⟩ : ∃ l, P.getLast? = some l := by
      cases hp : P.getLast? with
      | none => rw [List.getLast?_eq_none_iff] at hp; rw [hp] at hx; cases hx
      | some l => exact ⟨l, rfl⟩
    obtain ⟨f, hf⟩ : ∃ f, Q.head? = some f := by
      cases Q with
      | nil => cases hy
      | cons f Q => exact ⟨f, rfl⟩
    have hm := h l f hl hf
    have hxl : x = l ∨ lt x l := by
      obtain ⟨P', rfl⟩ := List.getLast?_eq_some_iff.1 hl
      rcases List.mem_append.1 hx with hx | hx
      · exact .inr ((List.pairwise_append.1 hP).2.2 x hx l (by simp))
      · simp at hx; exact .inl hx
    have hfy : y = f ∨ lt f y := by
      cases Q with
      | nil => cases hy
      | cons g Q =>
        simp at hf; subst hf
        rcases List.mem_cons.1 hy with hy | hy
        · exact .inl hy
        · exact .inr ((List.pairwise_cons.1 hQ).1 y hy)
    have h3 : lt x f := by rcases hxl with rfl | h; exact hm; exact ht _ _ _ h hm
    rcases hfy with rfl | h
    · exact h3
    · exact ht _ _ _ h3 h
  obtain ⟨a1, a2, a3⟩ := List.pairwise_append.1 hA
  obtain ⟨b1, b2, b3⟩ := List.pairwise_append.1 hB
  exact Ahead.app (fun x hx y hy => a3 x hx y hy) (key a1 b2 h1) (key b1 a2 h2) (fun x hx y hy => b3 x hx y hy)
/-- There is one sorted list of given elements. -/
theorem sorted_one (ha : ∀ x y, lt x y → ¬ lt y x) : ∀ {P Q : List α}, P.Pairwise lt → Q.Pairwise lt → P.Perm Q → P = Q
  | [], Q, _, _, h => (List.nil_perm.1 h).symm
  | x :: P, [], _, _, h => by have := h.length_eq; simp at this
  | x :: P, y :: Q, hP, hQ, h => by
    obtain ⟨p1, p2⟩ := List.pairwise_cons.1 hP
    obtain ⟨q1, q2⟩ := List.pairwise_cons.1 hQ
    have hxy : x = y := by
      rcases List.mem_cons.1 (h.mem_iff.1 (List.mem_cons_self ..)) with e | hx
      · exact e
      · rcases List.mem_cons.1 (h.symm.mem_iff.1 (List.mem_cons_self ..)) with e | hy
        · exact e.symm
        · exact absurd (q1 x hx) (ha x y (p1 y hy))
    subst hxy
    rw [sorted_one ha p2 q2 (List.Perm.cons_inv h)]
end
end Go.Proofs.Ytefhfoioeoijlaa
