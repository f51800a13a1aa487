/- The stable sort, over places: what each part of it makes of a list of places. No program. -/
import Derived.Test.YtefhfoioeoijlaaOSort
set_option linter.unusedVariables false
set_option linter.unusedSimpArgs false
namespace Go.Proofs.Ytefhfoioeoijlaa
section
variable {f : Nat → OpD}
/-- Place i before place j: by the stamps that lie there, then by the places. -/
def lx (f : Nat → OpD) (i j : Nat) : Prop := ltS (f i).at_ (f j).at_ = true ∨ (f i).at_ = (f j).at_ ∧ i < j
theorem lx_trans {i j k : Nat} (h : lx f i j) (h' : lx f j k) : lx f i k := by
  rcases h with h | ⟨h, h1⟩ <;> rcases h' with h' | ⟨h', h2⟩
  · exact .inl (ltS_trans h h')
  · exact .inl (h' ▸ h)
  · exact .inl (by rw [h]; exact h')
  · exact .inr ⟨h.trans h', by omega⟩
theorem lx_asymm {i j : Nat} (h : lx f i j) : ¬ lx f j i := by
  rintro (k | ⟨k, k1⟩) <;> rcases h with h | ⟨h, h1⟩
  · rw [ltS_asymm h] at k; cases k
  · rw [h, ltS_irrefl] at k; cases k
  · rw [k, ltS_irrefl] at h; cases h
  · omega
theorem lx_not {i j : Nat} (h : ltS (f j).at_ (f i).at_ = false) (hij : i < j) : lx f i j := by
  cases hk : ltS (f i).at_ (f j).at_ with
  | true => exact .inl hk
  | false => exact .inr ⟨ltS_tri hk h, hij⟩
theorem at_mid {p r : List Nat} {x z k : Nat} (hk : p.length = k) (h : (p ++ x :: r)[k]? = some z) : z = x := by
  subst hk; simpa using h.symm
theorem swap_mid (p r : List Nat) (x y k : Nat) (hk : p.length = k) : ((p ++ y :: x :: r).set (k + 1) y).set k x = p ++ x :: y :: r := by
  subst hk; simp [List.set_append]
theorem set_far {l : List Nat} {i j x y : Nat} (h : i ≠ j) : (l.set i x).set j y = (l.set j y).set i x := List.set_comm _ _ h

/-! ### insertion -/
/-- The outer loop of an insertion sort: what lies ahead of place i is in order. -/
def InsO (f : Nat → OpD) (pre X post I : List Nat) (i : Nat) : Prop := ∃ Y Z X1, I = pre ++ (Y ++ (Z ++ post)) ∧ X = X1 ++ Z ∧ Y.Perm X1 ∧ Y.Pairwise (lx f) ∧ (pre.length + Y.length = i ∨ Z = [] ∧ pre.length + Y.length < i)
def InsI (f : Nat → OpD) (pre X post I : List Nat) (i j : Nat) : Prop := ∃ Y1 x Y2 Z X1, I = pre ++ (Y1 ++ (x :: (Y2 ++ (Z ++ post)))) ∧ X = X1 ++ x :: Z ∧ (Y1 ++ Y2).Perm X1 ∧ (Y1 ++ Y2).Pairwise (lx f) ∧ (∀ y ∈ Y2, lx f x y) ∧ pre.length + Y1.length = j ∧ j + Y2.length = i
theorem InsO.first (pre X post : List Nat) : InsO f pre X post (pre ++ (X ++ post)) (pre.length + 1) := by
  cases X with
  | nil => exact ⟨[], [], [], rfl, rfl, .refl _, .nil, .inr ⟨rfl, by simp⟩⟩
  | cons x Z => exact ⟨[x], Z, [x], rfl, rfl, .refl _, by simp, .inl (by simp)⟩
theorem InsO.toI {pre X post I : List Nat} {i : Nat} (h : InsO f pre X post I i) (hi : i < pre.length + X.length) : InsI f pre X post I i i := by
  obtain ⟨Y, Z, X1, hI, hX, hp, hs, hl⟩ := h
  have hYX := hp.length_eq
  cases Z with
  | nil => exfalso; rw [hX] at hi; simp at hi; rcases hl with hl | ⟨_, hl⟩ <;> omega
  | cons x Z =>
    rcases hl with hl | ⟨hn, _⟩
    · exact ⟨Y, x, [], Z, X1, by rw [hI]; simp, hX, by simpa using hp, by simpa using hs, by simp, hl, by simp⟩
    · cases hn
theorem InsI.swap {pre X post I : List Nat} {i j x y : Nat} (h : InsI f pre X post I i j) (hj : pre.length < j) (hx : I[j]? = some x) (hy : I[j - 1]? = some y) (hlt : ltS (f x).at_ (f y).at_ = true) :
    InsI f pre X post ((I.set j y).set (j - 1) x) i (j - 1) := by
  obtain ⟨Y1, x', Y2, Z, X1, hI, hX, hp, hs, ha, hl, hi⟩ := h
  rcases List.eq_nil_or_concat Y1 with rfl | ⟨Y0, y', rfl⟩
  · simp at hl; omega
  · rw [List.concat_eq_append] at *
    simp at hl
    have hI' : I = (pre ++ Y0) ++ y' :: x' :: (Y2 ++ (Z ++ post)) := by rw [hI]; simp
    have hk : (pre ++ Y0).length = j - 1 := by simp; omega
    have e1 : y = y' := at_mid hk (by rw [← hI']; exact hy)
    have e2 : x = x' := at_mid (p := pre ++ Y0 ++ [y']) (r := Y2 ++ (Z ++ post)) (k := j) (by simp; omega) (by rw [← hx, hI']; simp)
    subst e1; subst e2
    have e3 := swap_mid (pre ++ Y0) (Y2 ++ (Z ++ post)) x y (j - 1) hk
    rw [show j - 1 + 1 = j by omega, ← hI'] at e3
    have hs' : (Y0 ++ y :: Y2).Pairwise (lx f) := by simpa using hs
    refine ⟨Y0, x, y :: Y2, Z, X1, by rw [e3]; simp, hX, by simpa using hp, hs', fun z hz => ?_, by omega, by simp; omega⟩
    rcases List.mem_cons.1 hz with rfl | hz
    · exact .inl hlt
    · exact ha z hz
theorem InsI.done {pre X post I : List Nat} {i j : Nat} (h : InsI f pre X post I i j) (hX0 : X.Pairwise (· < ·)) (he : j ≤ pre.length ∨ ∃ x y, I[j]? = some x ∧ I[j - 1]? = some y ∧ ltS (f x).at_ (f y).at_ = false) : InsO f pre X post I (i + 1) := by
  obtain ⟨Y1, x, Y2, Z, X1, hI, hX, hp, hs, ha, hl, hi⟩ := h
  refine ⟨Y1 ++ x :: Y2, Z, X1 ++ [x], by rw [hI]; simp, by rw [hX]; simp, ?_, ?_, .inl (by simp; omega)⟩
  · refine List.perm_middle.trans ?_
    refine ((hp.cons x).trans ?_)
    exact (List.perm_append_comm (l₁ := [x]) (l₂ := X1))
  · obtain ⟨s1, s2, s3⟩ := List.pairwise_append.1 hs
    refine List.pairwise_append.2 ⟨s1, List.pairwise_cons.2 ⟨ha, s2⟩, fun a ha' b hb => ?_⟩
    have hax : lx f a x := by
      rcases List.eq_nil_or_concat Y1 with rfl | ⟨Y0, y', rfl⟩
      · cases ha'
      · rw [List.concat_eq_append] at *
        simp at hl
        rcases he with he | ⟨x', y, hx, hy, hf⟩
        · omega
        · have e1 : y = y' := at_mid (p := pre ++ Y0) (r := x :: (Y2 ++ (Z ++ post))) (k := j - 1) (by simp; omega) (by rw [← hy, hI]; simp)
          have e2 : x' = x := at_mid (p := pre ++ Y0 ++ [y']) (r := Y2 ++ (Z ++ post)) (k := j) (by simp; omega) (by rw [← hx, hI]; simp)
          subst e1; subst e2
          have hyx : y < x' := by
            rw [hX] at hX0
            refine (List.pairwise_append.1 hX0).2.2 y (hp.mem_iff.1 (by simp)) x' (by simp)
          have hl : lx f y x' := lx_not hf hyx
          rcases List.mem_append.1 ha' with ha' | ha'
          · exact lx_trans ((List.pairwise_append.1 s1).2.2 a ha' y (by simp)) hl
          · simp at ha'; rw [ha']; exact hl
    rcases List.mem_cons.1 hb with rfl | hb
    · exact hax
    · exact s3 a ha' b hb
theorem InsO.fin {pre X post I : List Nat} {i : Nat} (h : InsO f pre X post I i) (hi : pre.length + X.length ≤ i) : ∃ C, I = pre ++ (C ++ post) ∧ C.Pairwise (lx f) ∧ C.Perm X := by
  obtain ⟨Y, Z, X1, hI, hX, hp, hs, hl⟩ := h
  have hYX := hp.length_eq
  have hZ : Z = [] := by
    rcases hl with hl | ⟨h, _⟩
    · rw [hX] at hi; simp at hi; exact List.eq_nil_of_length_eq_zero (by omega)
    · exact h
  subst hZ
  exact ⟨Y, by rw [hI]; simp, hs, by rw [hX]; simpa using hp⟩
theorem InsI.len {pre X post I : List Nat} {i j : Nat} (h : InsI f pre X post I i j) : I.length = pre.length + X.length + post.length ∧ pre.length ≤ j ∧ j ≤ i := by
  obtain ⟨Y1, x, Y2, Z, X1, hI, hX, hp, hs, ha, hl, hi⟩ := h
  have := hp.length_eq
  rw [hI, hX]; simp at *; omega

/-! ### two parts change places -/
def SwI (pre X mid Y post I : List Nat) (k : Nat) : Prop := ∃ X1 X2 Y1 Y2, X = X1 ++ X2 ∧ Y = Y1 ++ Y2 ∧ X1.length = k ∧ Y1.length = k ∧ I = pre ++ (Y1 ++ (X2 ++ (mid ++ (X1 ++ (Y2 ++ post)))))
theorem SwI.first (pre X mid Y post : List Nat) : SwI pre X mid Y post (pre ++ (X ++ (mid ++ (Y ++ post)))) 0 := ⟨[], X, [], Y, rfl, rfl, rfl, rfl, rfl⟩
theorem SwI.step {pre X mid Y post I : List Nat} {k a b x y : Nat} (h : SwI pre X mid Y post I k) (hXY : X.length = Y.length) (hk : k < Y.length) (ha : pre.length = a) (hb : a + X.length + mid.length = b) (hx : I[a + k]? = some x) (hy : I[b + k]? = some y) :
    SwI pre X mid Y post ((I.set (a + k) y).set (b + k) x) (k + 1) := by
  obtain ⟨X1, X2, Y1, Y2, hX, hY, h1, h2, hI⟩ := h
  cases X2 with
  | nil => rw [hX] at hXY; simp at hXY; omega
  | cons x' X2 =>
    cases Y2 with
    | nil => rw [hY] at hk; simp at hk; omega
    | cons y' Y2 =>
      have hXl : X.length = k + X2.length + 1 := by rw [hX]; simp; omega
      have i1 : I = (pre ++ Y1) ++ x' :: (X2 ++ (mid ++ (X1 ++ ((y' :: Y2) ++ post)))) := by rw [hI]; simp
      have i2 : I = (pre ++ (Y1 ++ (x' :: X2 ++ (mid ++ X1)))) ++ y' :: (Y2 ++ post) := by rw [hI]; simp
      have l1 : (pre ++ Y1).length = a + k := by simp; omega
      have l2 : (pre ++ (Y1 ++ (x' :: X2 ++ (mid ++ X1)))).length = b + k := by simp; omega
      have e1 : x = x' := at_mid l1 (by rw [← i1]; exact hx)
      have e2 : y = y' := at_mid l2 (by rw [← i2]; exact hy)
      subst e1; subst e2
      refine ⟨X1 ++ [x], X2, Y1 ++ [y], Y2, by rw [hX]; simp, by rw [hY]; simp, by simp; omega, by simp; omega, ?_⟩
      have s1 : I.set (a + k) y = (pre ++ (Y1 ++ (y :: X2 ++ (mid ++ X1)))) ++ y :: (Y2 ++ post) := by rw [i1, ← l1]; simp [List.set_append]
      rw [s1, ← l2]
      have l3 : (pre ++ (Y1 ++ (x :: X2 ++ (mid ++ X1)))).length = (pre ++ (Y1 ++ (y :: X2 ++ (mid ++ X1)))).length := by simp
      rw [l3]
      simp [List.set_append]
theorem SwI.fin {pre X mid Y post I : List Nat} {k : Nat} (h : SwI pre X mid Y post I k) (hXY : X.length = Y.length) (hk : Y.length ≤ k) : I = pre ++ (Y ++ (mid ++ (X ++ post))) := by
  obtain ⟨X1, X2, Y1, Y2, hX, hY, h1, h2, hI⟩ := h
  rw [hX, hY] at hXY
  rw [hY] at hk
  simp at hXY hk
  have e1 : Y2 = [] := List.eq_nil_of_length_eq_zero (by omega)
  have e2 : X2 = [] := List.eq_nil_of_length_eq_zero (by omega)
  subst e1; subst e2
  rw [hI, hX, hY]; simp
theorem SwI.len {pre X mid Y post I : List Nat} {k : Nat} (h : SwI pre X mid Y post I k) : I.length = pre.length + X.length + mid.length + Y.length + post.length := by
  obtain ⟨X1, X2, Y1, Y2, hX, hY, h1, h2, hI⟩ := h
  rw [hI, hX, hY]; simp; omega

/-! ### rotation -/
def RotI (pre A B post I : List Nat) (i j : Nat) : Prop := ∃ P A' B' S, I = pre ++ (P ++ (A' ++ (B' ++ (S ++ post)))) ∧ A'.length = i ∧ B'.length = j ∧ pre.length + P.length + i = pre.length + A.length ∧ P ++ (B' ++ (A' ++ S)) = B ++ A
theorem RotI.first (pre A B post : List Nat) : RotI pre A B post (pre ++ (A ++ (B ++ post))) A.length B.length := ⟨[], A, B, [], by simp, rfl, rfl, by simp, by simp⟩
theorem RotI.len {pre A B post I : List Nat} {i j : Nat} (h : RotI pre A B post I i j) : I.length = pre.length + A.length + B.length + post.length ∧ i ≤ A.length ∧ pre.length + A.length + j ≤ I.length := by
  obtain ⟨P, A', B', S, hI, h1, h2, h3, h4⟩ := h
  have := congrArg List.length h4
  rw [hI]; simp at *; omega
theorem RotI.gt {pre A B post I : List Nat} {i j : Nat} (h : RotI pre A B post I i j) (hij : j < i) :
    ∃ p X mid Y q, I = p ++ (X ++ (mid ++ (Y ++ q))) ∧ X.length = Y.length ∧ Y.length = j ∧ p.length = pre.length + A.length - i ∧ p.length + X.length + mid.length = pre.length + A.length ∧ RotI pre A B post (p ++ (Y ++ (mid ++ (X ++ q)))) (i - j) j := by
  obtain ⟨P, A', B', S, hI, h1, h2, h3, h4⟩ := h
  obtain ⟨A1, A2, hA, hl⟩ : ∃ A1 A2, A' = A1 ++ A2 ∧ A1.length = j := ⟨A'.take j, A'.drop j, (List.take_append_drop j A').symm, by simp; omega⟩
  subst hA
  simp at h1
  refine ⟨pre ++ P, A1, A2, B', S ++ post, by rw [hI]; simp, by omega, h2, by simp; omega, by simp; omega, P ++ B', A2, A1, S, by simp, by omega, hl, by simp; omega, by rw [← h4]; simp⟩
theorem RotI.lt {pre A B post I : List Nat} {i j : Nat} (h : RotI pre A B post I i j) (hij : i < j) :
    ∃ p X mid Y q, I = p ++ (X ++ (mid ++ (Y ++ q))) ∧ X.length = Y.length ∧ Y.length = i ∧ p.length = pre.length + A.length - i ∧ p.length + X.length + mid.length = pre.length + A.length + j - i ∧ RotI pre A B post (p ++ (Y ++ (mid ++ (X ++ q)))) i (j - i) := by
  obtain ⟨P, A', B', S, hI, h1, h2, h3, h4⟩ := h
  obtain ⟨B1, B2, hB, hl⟩ : ∃ B1 B2, B' = B1 ++ B2 ∧ B1.length = j - i := ⟨B'.take (j - i), B'.drop (j - i), (List.take_append_drop _ B').symm, by simp; omega⟩
  subst hB
  simp at h2
  refine ⟨pre ++ P, A', B1, B2, S ++ post, by rw [hI]; simp, by omega, by omega, by simp; omega, by simp; omega, P, B2, B1, A' ++ S, by simp, by omega, hl, by omega, by rw [← h4]; simp⟩
theorem RotI.eq {pre A B post I : List Nat} {i : Nat} (h : RotI pre A B post I i i) :
    ∃ p X Y q, I = p ++ (X ++ ([] ++ (Y ++ q))) ∧ X.length = Y.length ∧ Y.length = i ∧ p.length = pre.length + A.length - i ∧ p.length + X.length = pre.length + A.length ∧ p ++ (Y ++ ([] ++ (X ++ q))) = pre ++ (B ++ (A ++ post)) := by
  obtain ⟨P, A', B', S, hI, h1, h2, h3, h4⟩ := h
  refine ⟨pre ++ P, A', B', S ++ post, by rw [hI]; simp, by omega, by omega, by simp; omega, by simp; omega, ?_⟩
  have := congrArg (fun l => pre ++ (l ++ post)) h4
  simpa using this
end
end Go.Proofs.Ytefhfoioeoijlaa
