/- The merge of two neighbouring parts, and the stable sort as a whole, over places. No program. -/
import Derived.Test.YtefhfoioeoijlaaSortQ
set_option linter.unusedVariables false
set_option linter.unusedSimpArgs false
namespace Go.Proofs.Ytefhfoioeoijlaa
section
variable {f : Nat → OpD}
/-! ### one that wanders -/
def Mv (pre D q : List Nat) (x : Nat) (I : List Nat) (k : Nat) : Prop := ∃ C1 C2, D = C1 ++ C2 ∧ I = pre ++ (C1 ++ (x :: (C2 ++ q))) ∧ pre.length + C1.length = k
theorem Mv.left (pre D q : List Nat) (x : Nat) : Mv pre D q x (pre ++ (x :: (D ++ q))) pre.length := ⟨[], D, rfl, rfl, rfl⟩
theorem Mv.right (pre D q : List Nat) (x k : Nat) (hk : pre.length + D.length = k) : Mv pre D q x (pre ++ (D ++ (x :: q))) k := ⟨D, [], by simp, rfl, hk⟩
theorem Mv.len {pre D q I : List Nat} {x k : Nat} (h : Mv pre D q x I k) : I.length = pre.length + D.length + q.length + 1 ∧ pre.length ≤ k ∧ k ≤ pre.length + D.length := by
  obtain ⟨C1, C2, hD, hI, hk⟩ := h
  rw [hI, hD]; simp; omega
theorem Mv.up {pre D q I : List Nat} {x k u v : Nat} (h : Mv pre D q x I k) (hk : k < pre.length + D.length) (hu : I[k]? = some u) (hv : I[k + 1]? = some v) : Mv pre D q x ((I.set k v).set (k + 1) u) (k + 1) := by
  obtain ⟨C1, C2, hD, hI, hl⟩ := h
  cases C2 with
  | nil => rw [hD] at hk; simp at hk; omega
  | cons y C2 =>
    have i1 : I = (pre ++ C1) ++ x :: (y :: (C2 ++ q)) := by rw [hI]; simp
    have i2 : I = (pre ++ C1 ++ [x]) ++ y :: (C2 ++ q) := by rw [hI]; simp
    have l1 : (pre ++ C1).length = k := by simp; omega
    have e1 : u = x := at_mid l1 (by rw [← i1]; exact hu)
    have e2 : v = y := at_mid (p := pre ++ C1 ++ [x]) (r := C2 ++ q) (k := k + 1) (by simp; omega) (by rw [← i2]; exact hv)
    subst e1; subst e2
    have e3 := swap_mid (pre ++ C1) (C2 ++ q) v u k l1
    refine ⟨C1 ++ [v], C2, by rw [hD]; simp, ?_, by simp; omega⟩
    rw [set_far (by omega)]
    rw [i1, e3]; simp
theorem Mv.down {pre D q I : List Nat} {x k u v : Nat} (h : Mv pre D q x I k) (hk : pre.length < k) (hu : I[k]? = some u) (hv : I[k - 1]? = some v) : Mv pre D q x ((I.set k v).set (k - 1) u) (k - 1) := by
  obtain ⟨C1, C2, hD, hI, hl⟩ := h
  rcases List.eq_nil_or_concat C1 with rfl | ⟨C0, y, rfl⟩
  · simp at hl; omega
  · rw [List.concat_eq_append] at *
    simp at hl
    have i1 : I = (pre ++ C0) ++ y :: (x :: (C2 ++ q)) := by rw [hI]; simp
    have i2 : I = (pre ++ C0 ++ [y]) ++ x :: (C2 ++ q) := by rw [hI]; simp
    have l1 : (pre ++ C0).length = k - 1 := by simp; omega
    have e1 : u = x := at_mid (p := pre ++ C0 ++ [y]) (r := C2 ++ q) (k := k) (by simp; omega) (by rw [← i2]; exact hu)
    have e2 : v = y := at_mid l1 (by rw [← i1]; exact hv)
    subst e1; subst e2
    have e3 := swap_mid (pre ++ C0) (C2 ++ q) u v (k - 1) l1
    rw [show k - 1 + 1 = k by omega, ← i1] at e3
    exact ⟨C0, v :: C2, by rw [hD]; simp, by rw [e3]; simp, by omega⟩
theorem Mv.atRight {pre D q I : List Nat} {x k : Nat} (h : Mv pre D q x I k) (hk : pre.length + D.length ≤ k) : I = pre ++ (D ++ (x :: q)) := by
  obtain ⟨C1, C2, hD, hI, hl⟩ := h
  rw [hD] at hk; simp at hk
  have e : C2 = [] := List.eq_nil_of_length_eq_zero (by omega)
  subst e; rw [hI, hD]; simp
theorem Mv.atLeft {pre D q I : List Nat} {x k : Nat} (h : Mv pre D q x I k) (hk : k ≤ pre.length) : I = pre ++ (x :: (D ++ q)) := by
  obtain ⟨C1, C2, hD, hI, hl⟩ := h
  have e : C1 = [] := List.eq_nil_of_length_eq_zero (by omega)
  subst e; rw [hI, hD]; simp

/-! ### the merge -/
theorem cut (l : List Nat) {k : Nat} (hk : k ≤ l.length) : ∃ l1 l2, l = l1 ++ l2 ∧ l1.length = k := ⟨l.take k, l.drop k, (List.take_append_drop k l).symm, by simp; omega⟩
theorem last_at {p l r : List Nat} {x y : Nat} {k : Nat} (h : l.getLast? = some x) (hk : p.length + l.length = k + 1) (hy : (p ++ (l ++ r))[k]? = some y) : y = x := by
  obtain ⟨l', rfl⟩ := List.getLast?_eq_some_iff.1 h
  simp at hk
  exact at_mid (p := p ++ l') (r := r) (k := k) (by simp; omega) (by simpa using hy)
theorem head_at {p l r : List Nat} {x y : Nat} {k : Nat} (h : l.head? = some x) (hk : p.length = k) (hy : (p ++ (l ++ r))[k]? = some y) : y = x := by
  cases l with
  | nil => cases h
  | cons z l => simp at h; subst h; exact at_mid hk (by simpa using hy)
/-- The search for one element's place in a part in order, the element standing ahead. -/
def F1 (f : Nat → OpD) (I : List Nat) (x m b i j : Nat) : Prop := m ≤ i ∧ i ≤ j ∧ j ≤ b ∧ (i = m ∨ ∃ y, I[i - 1]? = some y ∧ ltS (f y).at_ (f x).at_ = true) ∧ (j = b ∨ ∃ y, I[j]? = some y ∧ ltS (f y).at_ (f x).at_ = false)
theorem F1.first (f : Nat → OpD) (I : List Nat) (x m b : Nat) (h : m ≤ b) : F1 f I x m b m b := ⟨Nat.le_refl _, h, Nat.le_refl _, .inl rfl, .inl rfl⟩
theorem F1.yes {I : List Nat} {x m b i j h y : Nat} (k : F1 f I x m b i j) (h1 : i ≤ h) (h2 : h < j) (hy : I[h]? = some y) (hl : ltS (f y).at_ (f x).at_ = true) : F1 f I x m b (h + 1) j :=
  ⟨by have := k.1; omega, h2, k.2.2.1, .inr ⟨y, by simpa using hy, hl⟩, k.2.2.2.2⟩
theorem F1.no {I : List Nat} {x m b i j h y : Nat} (k : F1 f I x m b i j) (h1 : i ≤ h) (h2 : h < j) (hy : I[h]? = some y) (hl : ltS (f y).at_ (f x).at_ = false) : F1 f I x m b i h :=
  ⟨k.1, h1, by have := k.2.2.1; omega, k.2.2.2.1, .inr ⟨y, hy, hl⟩⟩
theorem F1.fin {pre B post : List Nat} {x m b i : Nat} (k : F1 f (pre ++ (x :: (B ++ post))) x m b i i) (hm : pre.length + 1 = m) (hb : m + B.length = b) (hB : B.Pairwise (lx f)) (ht : Ahead (· < ·) [x] B) :
    ∃ B1 B2, B = B1 ++ B2 ∧ m + B1.length = i ∧ Merged (lx f) [x] B (B1 ++ x :: B2) := by
  obtain ⟨k1, _, k2, k3, k4⟩ := k
  obtain ⟨B1, B2, rfl, hl⟩ := cut B (k := i - m) (by omega)
  have hlen : m + (B1.length + B2.length) = b := by simpa using hb
  have hx2 : ∀ y, B2.head? = some y → lx f x y := by
    intro y hy
    have hy2 : y ∈ B2 := List.mem_of_mem_head? hy
    rcases k4 with e | ⟨z, hz, hf⟩
    · have : B2 = [] := List.eq_nil_of_length_eq_zero (by omega)
      rw [this] at hy; cases hy
    · have e := head_at (p := pre ++ x :: B1) (r := post) hy (k := i) (by simp; omega) (y := z) (by rw [← hz]; simp)
      subst e
      exact lx_not hf (ht x (by simp) z (by simp [hy2]))
  have hx1 : ∀ y, B1.getLast? = some y → lx f y x := by
    intro y hy
    rcases k3 with e | ⟨z, hz, hf⟩
    · have : B1 = [] := List.eq_nil_of_length_eq_zero (by omega)
      rw [this] at hy; cases hy
    · have e := last_at (p := pre ++ [x]) (r := B2 ++ post) hy (k := i - 1) (by simp; omega) (y := z) (by rw [← hz]; simp)
      subst e
      exact .inl hf
  obtain ⟨s1, s2, s3⟩ := List.pairwise_append.1 hB
  have hxB : ∀ y ∈ B2, lx f x y := by
    cases B2 with
    | nil => simp
    | cons z B2 =>
      intro y hy
      rcases List.mem_cons.1 hy with rfl | hy
      · exact hx2 _ rfl
      · exact lx_trans (hx2 _ rfl) ((List.pairwise_cons.1 s2).1 y hy)
  have hA := parts_ahead (lt := lx f) (A1 := []) (A2 := [x]) (B1 := B1) (B2 := B2) (fun _ _ _ => lx_trans) (by simp) hB (by simp) (fun u v hu hv => by simp at hv; subst hv; exact hx1 _ hu)
  refine ⟨B1, B2, rfl, by omega, ?_⟩
  have := Merged.step (lt := lx f) (A1 := []) (A2 := [x]) (B1 := B1) (B2 := B2) (C1 := B1) (C2 := x :: B2) hA (Merged.nil_left s1) ⟨List.pairwise_cons.2 ⟨hxB, s2⟩, by simp⟩
  simpa using this
/-- The search for one element's place in a part in order, the element standing behind. -/
def F2 (f : Nat → OpD) (I : List Nat) (y a m i j : Nat) : Prop := a ≤ i ∧ i ≤ j ∧ j ≤ m ∧ (i = a ∨ ∃ z, I[i - 1]? = some z ∧ ltS (f y).at_ (f z).at_ = false) ∧ (j = m ∨ ∃ z, I[j]? = some z ∧ ltS (f y).at_ (f z).at_ = true)
theorem F2.first (f : Nat → OpD) (I : List Nat) (y a m : Nat) (h : a ≤ m) : F2 f I y a m a m := ⟨Nat.le_refl _, h, Nat.le_refl _, .inl rfl, .inl rfl⟩
theorem F2.yes {I : List Nat} {y a m i j h z : Nat} (k : F2 f I y a m i j) (h1 : i ≤ h) (h2 : h < j) (hz : I[h]? = some z) (hl : ltS (f y).at_ (f z).at_ = false) : F2 f I y a m (h + 1) j :=
  ⟨by have := k.1; omega, h2, k.2.2.1, .inr ⟨z, by simpa using hz, hl⟩, k.2.2.2.2⟩
theorem F2.no {I : List Nat} {y a m i j h z : Nat} (k : F2 f I y a m i j) (h1 : i ≤ h) (h2 : h < j) (hz : I[h]? = some z) (hl : ltS (f y).at_ (f z).at_ = true) : F2 f I y a m i h :=
  ⟨k.1, h1, by have := k.2.2.1; omega, k.2.2.2.1, .inr ⟨z, hz, hl⟩⟩
theorem F2.fin {pre A post : List Nat} {y a m i : Nat} (k : F2 f (pre ++ (A ++ (y :: post))) y a m i i) (ha : pre.length = a) (hm : a + A.length = m) (hA : A.Pairwise (lx f)) (ht : Ahead (· < ·) A [y]) :
    ∃ A1 A2, A = A1 ++ A2 ∧ a + A1.length = i ∧ Merged (lx f) A [y] (A1 ++ y :: A2) := by
  obtain ⟨k1, _, k2, k3, k4⟩ := k
  obtain ⟨A1, A2, rfl, hl⟩ := cut A (k := i - a) (by omega)
  have hlen : a + (A1.length + A2.length) = m := by simpa using hm
  have hx2 : ∀ z, A2.head? = some z → lx f y z := by
    intro z hz
    rcases k4 with e | ⟨u, hu, hf⟩
    · have : A2 = [] := List.eq_nil_of_length_eq_zero (by omega)
      rw [this] at hz; cases hz
    · have e := head_at (p := pre ++ A1) (r := y :: post) hz (k := i) (by simp; omega) (y := u) (by rw [← hu]; simp)
      subst e
      exact .inl hf
  have hx1 : ∀ z, A1.getLast? = some z → lx f z y := by
    intro z hz
    have hz1 : z ∈ A1 := List.mem_of_getLast? hz
    rcases k3 with e | ⟨u, hu, hf⟩
    · have : A1 = [] := List.eq_nil_of_length_eq_zero (by omega)
      rw [this] at hz; cases hz
    · have hp := List.length_pos_of_mem hz1
      have e := last_at (p := pre) (r := A2 ++ (y :: post)) hz (k := i - 1) (by omega) (y := u) (by rw [← hu]; simp)
      subst e
      exact lx_not hf (ht u (by simp [hz1]) y (by simp))
  obtain ⟨s1, s2, s3⟩ := List.pairwise_append.1 hA
  have hyA : ∀ z ∈ A2, lx f y z := by
    cases A2 with
    | nil => simp
    | cons u A2 =>
      intro z hz
      rcases List.mem_cons.1 hz with rfl | hz
      · exact hx2 _ rfl
      · exact lx_trans (hx2 _ rfl) ((List.pairwise_cons.1 s2).1 z hz)
  have hAh := parts_ahead (lt := lx f) (A1 := A1) (A2 := A2) (B1 := []) (B2 := [y]) (fun _ _ _ => lx_trans) hA (by simp) (fun u v hu hv => by simp at hv; subst hv; exact hx1 _ hu) (by simp)
  refine ⟨A1, A2, rfl, by omega, ?_⟩
  have := Merged.step (lt := lx f) (A1 := A1) (A2 := A2) (B1 := []) (B2 := [y]) (C1 := A1) (C2 := y :: A2) hAh (Merged.nil_right s1) ⟨List.pairwise_cons.2 ⟨hyA, s2⟩, by simpa using (List.perm_append_comm (l₁ := [y]) (l₂ := A2))⟩
  simpa using this
/-- The search for the turning point of a merge. -/
def SymS (f : Nat → OpD) (I : List Nat) (n s0 r0 s r : Nat) : Prop := s0 ≤ s ∧ s ≤ r ∧ r ≤ r0 ∧ (s = s0 ∨ ∃ x y, I[s - 1]? = some x ∧ I[n - s]? = some y ∧ ltS (f y).at_ (f x).at_ = false) ∧ (r = r0 ∨ ∃ x y, I[r]? = some x ∧ I[n - 1 - r]? = some y ∧ ltS (f y).at_ (f x).at_ = true)
theorem SymS.first (f : Nat → OpD) (I : List Nat) (n s0 r0 : Nat) (h : s0 ≤ r0) : SymS f I n s0 r0 s0 r0 := ⟨Nat.le_refl _, h, Nat.le_refl _, .inl rfl, .inl rfl⟩
theorem SymS.yes {I : List Nat} {n s0 r0 s r c x y : Nat} (h : SymS f I n s0 r0 s r) (h1 : s ≤ c) (h2 : c < r) (hx : I[c]? = some x) (hy : I[n - 1 - c]? = some y) (hl : ltS (f y).at_ (f x).at_ = false) : SymS f I n s0 r0 (c + 1) r :=
  ⟨by have := h.1; omega, h2, h.2.2.1, .inr ⟨x, y, by simpa using hx, by rw [show n - (c + 1) = n - 1 - c by omega]; exact hy, hl⟩, h.2.2.2.2⟩
theorem SymS.no {I : List Nat} {n s0 r0 s r c x y : Nat} (h : SymS f I n s0 r0 s r) (h1 : s ≤ c) (h2 : c < r) (hx : I[c]? = some x) (hy : I[n - 1 - c]? = some y) (hl : ltS (f y).at_ (f x).at_ = true) : SymS f I n s0 r0 s c :=
  ⟨h.1, h1, by have := h.2.2.1; omega, h.2.2.2.1, .inr ⟨x, y, hx, hy, hl⟩⟩
/-- Two parts A and B of a list, each cut in two; what is to come first is ahead of what is to come last. -/
def Sym1 (f : Nat → OpD) (pre A B post I : List Nat) (s e : Nat) : Prop := ∃ A1 A2 B1 B2, A = A1 ++ A2 ∧ B = B1 ++ B2 ∧ I = pre ++ (A1 ++ (A2 ++ (B1 ++ (B2 ++ post)))) ∧ pre.length + A1.length = s ∧ pre.length + A.length + B1.length = e ∧ Ahead (lx f) (A1 ++ B1) (A2 ++ B2)
theorem SymS.fin {pre A B post I : List Nat} {a m b mid n s0 r0 s : Nat} (h : SymS f I n s0 r0 s s) (hI : I = pre ++ (A ++ (B ++ post))) (ha : pre.length = a) (hm : a + A.length = m) (hb : m + B.length = b) (hmid : (a + b) / 2 = mid) (hn : mid + m = n)
    (hs : mid < m ∧ s0 = n - b ∧ r0 = mid ∨ m ≤ mid ∧ s0 = a ∧ r0 = m) (hA : A.Pairwise (lx f)) (hB : B.Pairwise (lx f)) (ht : Ahead (· < ·) A B) : Sym1 f pre A B post I s (n - s) := by
  obtain ⟨k1, _, k2, k3, k4⟩ := h
  obtain ⟨A1, A2, rfl, hl⟩ := cut A (k := s - a) (by omega)
  obtain ⟨B1, B2, rfl, hl'⟩ := cut B (k := n - s - m) (by omega)
  have hlA : a + (A1.length + A2.length) = m := by simpa using hm
  have hlB : m + (B1.length + B2.length) = b := by simpa using hb
  refine ⟨A1, A2, B1, B2, rfl, rfl, by rw [hI]; simp, by omega, by simp; omega, ?_⟩
  refine parts_ahead (fun _ _ _ => lx_trans) hA hB (fun x y hx hy => ?_) (fun x y hx hy => ?_)
  · rcases k3 with e | ⟨u, v, hu, hv, hf⟩
    · rcases hs with ⟨q1, q2, q3⟩ | ⟨q1, q2, q3⟩
      · have : B2 = [] := List.eq_nil_of_length_eq_zero (by omega)
        rw [this] at hy; cases hy
      · have : A1 = [] := List.eq_nil_of_length_eq_zero (by omega)
        rw [this] at hx; cases hx
    · have hA1 : 0 < A1.length := List.length_pos_of_mem (List.mem_of_getLast? hx)
      have e1 := last_at (p := pre) (r := A2 ++ (B1 ++ (B2 ++ post))) hx (k := s - 1) (by omega) (y := u) (by rw [← hu, hI]; simp)
      have e2 := head_at (p := pre ++ (A1 ++ (A2 ++ B1))) (r := post) hy (k := n - s) (by simp; omega) (y := v) (by rw [← hv, hI]; simp)
      subst e1; subst e2
      exact lx_not hf (ht u (by simp [List.mem_of_getLast? hx]) v (by simp [List.mem_of_mem_head? hy]))
  · rcases k4 with e | ⟨u, v, hu, hv, hf⟩
    · rcases hs with ⟨q1, q2, q3⟩ | ⟨q1, q2, q3⟩
      · have : B1 = [] := List.eq_nil_of_length_eq_zero (by omega)
        rw [this] at hx; cases hx
      · have : A2 = [] := List.eq_nil_of_length_eq_zero (by omega)
        rw [this] at hy; cases hy
    · have hB1 : 0 < B1.length := List.length_pos_of_mem (List.mem_of_getLast? hx)
      have e1 := last_at (p := pre ++ (A1 ++ A2)) (r := B2 ++ post) hx (k := n - 1 - s) (by simp; omega) (y := v) (by rw [← hv, hI]; simp)
      have e2 := head_at (p := pre ++ A1) (r := B1 ++ (B2 ++ post)) hy (k := s) (by simp; omega) (y := u) (by rw [← hu, hI]; simp)
      subst e1; subst e2
      exact .inl hf
theorem Sym1.len {pre A B post I : List Nat} {s e : Nat} (h : Sym1 f pre A B post I s e) : I.length = pre.length + A.length + B.length + post.length ∧ pre.length ≤ s ∧ s ≤ pre.length + A.length ∧ pre.length + A.length ≤ e ∧ e ≤ pre.length + A.length + B.length := by
  obtain ⟨A1, A2, B1, B2, rfl, rfl, hI, h1, h2, h3⟩ := h
  rw [hI]; simp at *; omega
/-- Behind the rotation: what is to come first is there. -/
def Sym2 (f : Nat → OpD) (pre A B post I : List Nat) (s mid e : Nat) : Prop := ∃ A1 A2 B1 B2, A = A1 ++ A2 ∧ B = B1 ++ B2 ∧ I = pre ++ (A1 ++ (B1 ++ (A2 ++ (B2 ++ post)))) ∧ pre.length + A1.length = s ∧ s + B1.length = mid ∧ mid + A2.length = e ∧ Ahead (lx f) (A1 ++ B1) (A2 ++ B2)
theorem Sym1.skip {pre A B post I : List Nat} {s e mid : Nat} (h : Sym1 f pre A B post I s e) (hz : ¬ s < pre.length + A.length ∨ ¬ pre.length + A.length < e) (hmid : s + e = mid + (pre.length + A.length)) : Sym2 f pre A B post I s mid e := by
  obtain ⟨A1, A2, B1, B2, rfl, rfl, hI, h1, h2, h3⟩ := h
  simp at hz hmid h2
  refine ⟨A1, A2, B1, B2, rfl, rfl, ?_, h1, by omega, by omega, h3⟩
  rw [hI]
  rcases hz with hz | hz
  · have : A2 = [] := List.eq_nil_of_length_eq_zero (by omega)
    subst this; simp
  · have : B1 = [] := List.eq_nil_of_length_eq_zero (by omega)
    subst this; simp
theorem Sym1.turn {pre A B post I : List Nat} {s e mid : Nat} (h : Sym1 f pre A B post I s e) (hmid : s + e = mid + (pre.length + A.length)) :
    ∃ p X Y q, I = p ++ (X ++ (Y ++ q)) ∧ p.length = s ∧ s + X.length = pre.length + A.length ∧ pre.length + A.length + Y.length = e ∧ Sym2 f pre A B post (p ++ (Y ++ (X ++ q))) s mid e := by
  obtain ⟨A1, A2, B1, B2, rfl, rfl, hI, h1, h2, h3⟩ := h
  simp at hmid h2
  exact ⟨pre ++ A1, A2, B1, B2 ++ post, by rw [hI]; simp, by simp; omega, by simp; omega, by simp; omega, A1, A2, B1, B2, rfl, rfl, by simp, h1, by omega, by omega, h3⟩
/-- Behind the first half. -/
def Sym3 (f : Nat → OpD) (pre A B post I : List Nat) (mid e : Nat) : Prop := ∃ A1 A2 B1 B2 C1, A = A1 ++ A2 ∧ B = B1 ++ B2 ∧ I = pre ++ (C1 ++ (A2 ++ (B2 ++ post))) ∧ pre.length + C1.length = mid ∧ mid + A2.length = e ∧ Ahead (lx f) (A1 ++ B1) (A2 ++ B2) ∧ Merged (lx f) A1 B1 C1
theorem Sym2.skip {pre A B post I : List Nat} {s e mid : Nat} (h : Sym2 f pre A B post I s mid e) (hz : ¬ pre.length < s ∨ ¬ s < mid) (hA : A.Pairwise (lx f)) (hB : B.Pairwise (lx f)) : Sym3 f pre A B post I mid e := by
  obtain ⟨A1, A2, B1, B2, rfl, rfl, hI, h1, h2, h4, h3⟩ := h
  refine ⟨A1, A2, B1, B2, A1 ++ B1, rfl, rfl, by rw [hI]; simp, by simp; omega, h4, h3, ?_⟩
  rcases hz with hz | hz
  · have : A1 = [] := List.eq_nil_of_length_eq_zero (by omega)
    subst this; exact Merged.nil_left (List.pairwise_append.1 hB).1
  · have : B1 = [] := List.eq_nil_of_length_eq_zero (by omega)
    subst this; simpa using Merged.nil_right (List.pairwise_append.1 hA).1
theorem Sym2.half {pre A B post I : List Nat} {s e mid : Nat} (h : Sym2 f pre A B post I s mid e) (hA : A.Pairwise (lx f)) (hB : B.Pairwise (lx f)) (ht : Ahead (· < ·) A B) :
    ∃ X Y q, I = pre ++ (X ++ (Y ++ q)) ∧ pre.length + X.length = s ∧ s + Y.length = mid ∧ X.Pairwise (lx f) ∧ Y.Pairwise (lx f) ∧ Ahead (· < ·) X Y ∧ ∀ C, Merged (lx f) X Y C → Sym3 f pre A B post (pre ++ (C ++ q)) mid e := by
  obtain ⟨A1, A2, B1, B2, rfl, rfl, hI, h1, h2, h4, h3⟩ := h
  refine ⟨A1, B1, A2 ++ (B2 ++ post), hI, h1, h2, (List.pairwise_append.1 hA).1, (List.pairwise_append.1 hB).1, fun x hx y hy => ht x (by simp [hx]) y (by simp [hy]), fun C hC => ⟨A1, A2, B1, B2, C, rfl, rfl, rfl, ?_, h4, h3, hC⟩⟩
  have := hC.2.length_eq; simp at this; omega
theorem Sym3.half {pre A B post I : List Nat} {e mid : Nat} (h : Sym3 f pre A B post I mid e) (hA : A.Pairwise (lx f)) (hB : B.Pairwise (lx f)) (ht : Ahead (· < ·) A B) :
    ∃ p X Y, I = p ++ (X ++ (Y ++ post)) ∧ p.length = mid ∧ mid + X.length = e ∧ e + Y.length = pre.length + A.length + B.length ∧ X.Pairwise (lx f) ∧ Y.Pairwise (lx f) ∧ Ahead (· < ·) X Y ∧ ∀ C, Merged (lx f) X Y C → ∃ D, p ++ (C ++ post) = pre ++ (D ++ post) ∧ Merged (lx f) A B D := by
  obtain ⟨A1, A2, B1, B2, C1, rfl, rfl, hI, h1, h2, h3, hC1⟩ := h
  have hl := hC1.2.length_eq
  simp at hl
  refine ⟨pre ++ C1, A2, B2, by rw [hI]; simp, by simp; omega, h2, by simp; omega, (List.pairwise_append.1 hA).2.1, (List.pairwise_append.1 hB).2.1, fun x hx y hy => ht x (by simp [hx]) y (by simp [hy]), fun C hC => ⟨C1 ++ C, by simp, Merged.step h3 hC1 hC⟩⟩
theorem Sym3.skip {pre A B post I : List Nat} {e mid : Nat} (h : Sym3 f pre A B post I mid e) (hz : ¬ mid < e ∨ ¬ e < pre.length + A.length + B.length) (hA : A.Pairwise (lx f)) (hB : B.Pairwise (lx f)) : ∃ D, I = pre ++ (D ++ post) ∧ Merged (lx f) A B D := by
  obtain ⟨A1, A2, B1, B2, C1, rfl, rfl, hI, h1, h2, h3, hC1⟩ := h
  have hl := hC1.2.length_eq
  simp at hl hz
  refine ⟨C1 ++ (A2 ++ B2), by rw [hI]; simp, Merged.step h3 hC1 ?_⟩
  rcases hz with hz | hz
  · have : A2 = [] := List.eq_nil_of_length_eq_zero (by omega)
    subst this; exact Merged.nil_left (List.pairwise_append.1 hB).2.1
  · have : B2 = [] := List.eq_nil_of_length_eq_zero (by omega)
    subst this; simpa using Merged.nil_right (List.pairwise_append.1 hA).2.1

/-! ### runs -/
inductive Runs (f : Nat → OpD) (bs : Nat) : Nat → List Nat → Prop
  | last {p l} : l.length ≤ bs → l.Pairwise (lx f) → l.Perm (List.range' p l.length) → Runs f bs p l
  | cons {p l r} : l.length = bs → l.Pairwise (lx f) → l.Perm (List.range' p bs) → Runs f bs (p + bs) r → Runs f bs p (l ++ r)
inductive Full (f : Nat → OpD) (bs : Nat) : List Nat → Prop
  | nil : Full f bs []
  | snoc {D l} : Full f bs D → l.length = bs → l.Pairwise (lx f) → l.Perm (List.range' D.length bs) → Full f bs (D ++ l)
theorem Full.runs {bs : Nat} {D : List Nat} (h : Full f bs D) : ∀ {T}, Runs f bs D.length T → Runs f bs 0 (D ++ T) := by
  induction h with
  | nil => intro T hT; simpa using hT
  | snoc hD hl hs hp ih =>
    intro T hT
    rw [List.append_assoc]
    refine ih (.cons hl hs hp ?_)
    rw [List.length_append, hl] at hT
    exact hT
theorem Runs.one {bs p : Nat} {l : List Nat} (h : Runs f bs p l) (hb : 0 < bs) (hl : l.length ≤ bs) : l.Pairwise (lx f) ∧ l.Perm (List.range' p l.length) := by
  cases h with
  | last _ h2 h3 => exact ⟨h2, h3⟩
  | cons h1 h2 h3 h4 =>
    rename_i l r
    have : r = [] := by simp at hl; exact List.eq_nil_of_length_eq_zero (by omega)
    subst this
    simp; exact ⟨h2, by rw [h1]; exact h3⟩
theorem Runs.cut {bs p : Nat} {l : List Nat} (h : Runs f bs p l) (hl : bs ≤ l.length) : ∃ l1 l2, l = l1 ++ l2 ∧ l1.length = bs ∧ l1.Pairwise (lx f) ∧ l1.Perm (List.range' p bs) ∧ Runs f bs (p + bs) l2 := by
  cases h with
  | last h1 h2 h3 =>
    have e : l.length = bs := by omega
    exact ⟨l, [], by simp, e, h2, by rw [← e]; exact h3, .last (by simp) .nil (by simp)⟩
  | cons h1 h2 h3 h4 => exact ⟨_, _, rfl, h1, h2, h3, h4⟩
theorem range_ahead {p m n : Nat} {l1 l2 : List Nat} (h1 : l1.Perm (List.range' p m)) (h2 : l2.Perm (List.range' (p + m) n)) : Ahead (· < ·) l1 l2 := fun x hx y hy => by
  have a := h1.mem_iff.1 hx
  have b := h2.mem_iff.1 hy
  rw [List.mem_range'_1] at a b
  omega
theorem range_join {p m n : Nat} {l1 l2 : List Nat} (h1 : l1.Perm (List.range' p m)) (h2 : l2.Perm (List.range' (p + m) n)) : (l1 ++ l2).Perm (List.range' p (m + n)) := by
  rw [← List.range'_append_1]
  exact h1.append h2
/-- A pass of merges: what is done, what is to come. -/
def Pass (f : Nat → OpD) (n bs : Nat) (I : List Nat) (a : Nat) : Prop := ∃ D T, I = D ++ T ∧ D.length = a ∧ a + T.length = n ∧ Full f (2 * bs) D ∧ Runs f bs a T
theorem Pass.first {n bs : Nat} {I : List Nat} (h : Runs f bs 0 I) (hn : I.length = n) : Pass f n bs I 0 := ⟨[], I, rfl, rfl, by omega, .nil, h⟩
theorem Pass.len {n bs a : Nat} {I : List Nat} (h : Pass f n bs I a) : I.length = n ∧ a ≤ n := by
  obtain ⟨D, T, rfl, h1, h2, _⟩ := h; simp; omega
theorem Pass.pair {n bs a : Nat} {I : List Nat} (h : Pass f n bs I a) (hb : a + 2 * bs ≤ n) :
    ∃ p A B q, I = p ++ (A ++ (B ++ q)) ∧ p.length = a ∧ A.length = bs ∧ B.length = bs ∧ A.Pairwise (lx f) ∧ B.Pairwise (lx f) ∧ Ahead (· < ·) A B ∧ ∀ C, Merged (lx f) A B C → Pass f n bs (p ++ (C ++ q)) (a + 2 * bs) := by
  obtain ⟨D, T, rfl, h1, h2, h3, h4⟩ := h
  obtain ⟨A, T1, rfl, hA, sA, pA, h5⟩ := h4.cut (by omega)
  simp at h2
  obtain ⟨B, T2, rfl, hB, sB, pB, h6⟩ := h5.cut (by omega)
  simp at h2
  refine ⟨D, A, B, T2, rfl, h1, hA, hB, sA, sB, range_ahead pA pB, fun C hC => ⟨D ++ C, T2, by simp, ?_, ?_, .snoc h3 ?_ hC.1 ?_, ?_⟩⟩
  · have := hC.2.length_eq; simp at this ⊢; omega
  · omega
  · have := hC.2.length_eq; simp at this; omega
  · rw [h1, Nat.two_mul]; exact hC.2.trans (range_join pA pB)
  · rw [show a + 2 * bs = a + bs + bs by omega]; exact h6
theorem Pass.tail {n bs a : Nat} {I : List Nat} (h : Pass f n bs I a) (hb : n < a + 2 * bs) (hm : a + bs < n) :
    ∃ p A B, I = p ++ (A ++ (B ++ [])) ∧ p.length = a ∧ A.length = bs ∧ a + bs + B.length = n ∧ A.Pairwise (lx f) ∧ B.Pairwise (lx f) ∧ Ahead (· < ·) A B ∧ ∀ C, Merged (lx f) A B C → Runs f (2 * bs) 0 (p ++ (C ++ [])) ∧ (p ++ (C ++ [])).length = n := by
  obtain ⟨D, T, rfl, h1, h2, h3, h4⟩ := h
  obtain ⟨A, T1, rfl, hA, sA, pA, h5⟩ := h4.cut (by omega)
  simp at h2
  obtain ⟨sB, pB⟩ := h5.one (by omega) (by omega)
  refine ⟨D, A, T1, by simp, h1, hA, by omega, sA, sB, range_ahead pA pB, fun C hC => ?_⟩
  have hl := hC.2.length_eq
  simp at hl
  have hp := hC.2.trans (range_join pA pB)
  refine ⟨by rw [List.append_nil]; exact h3.runs (.last (by omega) hC.1 (by rw [h1, hl, hA]; exact hp)), by simp; omega⟩
theorem Pass.done {n bs a : Nat} {I : List Nat} (h : Pass f n bs I a) (hb : 0 < bs) (hm : n ≤ a + bs) : Runs f (2 * bs) 0 I ∧ I.length = n := by
  obtain ⟨D, T, rfl, h1, h2, h3, h4⟩ := h
  obtain ⟨s, p⟩ := h4.one hb (by omega)
  exact ⟨h3.runs (.last (by omega) s (by rw [h1]; exact p)), by simp; omega⟩
/-- The first pass: insertion by blocks. -/
def Blocks (f : Nat → OpD) (n bs : Nat) (I : List Nat) (a : Nat) : Prop := ∃ D, I = D ++ List.range' a (n - a) ∧ D.length = a ∧ a ≤ n ∧ Full f bs D
theorem Blocks.first (f : Nat → OpD) (n bs : Nat) : Blocks f n bs (List.range n) 0 := ⟨[], by simp [List.range_eq_range'], rfl, by omega, .nil⟩
theorem Blocks.len {n bs a : Nat} {I : List Nat} (h : Blocks f n bs I a) : I.length = n ∧ a ≤ n := by
  obtain ⟨D, rfl, h1, h2, _⟩ := h; simp; omega
theorem range_lt (p n : Nat) : (List.range' p n).Pairwise (· < ·) := List.pairwise_lt_range'
theorem Blocks.part {n bs a : Nat} {I : List Nat} (h : Blocks f n bs I a) (hb : a + bs ≤ n) :
    ∃ p X q, I = p ++ (X ++ q) ∧ p.length = a ∧ X.length = bs ∧ X.Pairwise (· < ·) ∧ ∀ C, C.Pairwise (lx f) → C.Perm X → Blocks f n bs (p ++ (C ++ q)) (a + bs) := by
  obtain ⟨D, rfl, h1, h2, h3⟩ := h
  refine ⟨D, List.range' a bs, List.range' (a + bs) (n - (a + bs)), ?_, h1, by simp, range_lt _ _, fun C hC hp => ⟨D ++ C, by simp, ?_, by omega, .snoc h3 ?_ hC (by rw [h1]; exact hp)⟩⟩
  · rw [List.range'_append_1]; congr 2; omega
  · have := hp.length_eq; simp at this ⊢; omega
  · have := hp.length_eq; simpa using this
theorem Blocks.last {n bs a : Nat} {I : List Nat} (h : Blocks f n bs I a) (hb : n < a + bs) :
    ∃ p X, I = p ++ (X ++ []) ∧ p.length = a ∧ a + X.length = n ∧ X.Pairwise (· < ·) ∧ ∀ C, C.Pairwise (lx f) → C.Perm X → Runs f bs 0 (p ++ (C ++ [])) ∧ (p ++ (C ++ [])).length = n := by
  obtain ⟨D, rfl, h1, h2, h3⟩ := h
  refine ⟨D, List.range' a (n - a), by simp, h1, by simp; omega, range_lt _ _, fun C hC hp => ?_⟩
  have hl := hp.length_eq
  simp at hl
  exact ⟨by rw [List.append_nil]; exact h3.runs (.last (by omega) hC (by rw [h1, hl]; exact hp)), by simp; omega⟩
/-- All in order. -/
def AllSorted (f : Nat → OpD) (n : Nat) (I : List Nat) : Prop := I.Pairwise (lx f) ∧ I.Perm (List.range n)
theorem Runs.all {n bs : Nat} {I : List Nat} (h : Runs f bs 0 I) (hn : I.length = n) (hb : 0 < bs) (hl : n ≤ bs) : AllSorted f n I := by
  obtain ⟨s, p⟩ := h.one hb (by omega)
  exact ⟨s, by rw [hn] at p; rw [List.range_eq_range']; exact p⟩
end
end Go.Proofs.Ytefhfoioeoijlaa
