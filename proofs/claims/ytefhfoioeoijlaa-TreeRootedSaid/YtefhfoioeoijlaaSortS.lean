/- The operations of a list, in order, of one stamp the first: as a fold, and as what is left of a stable sort. No program. -/
import Derived.Test.YtefhfoioeoijlaaSortR
set_option linter.unusedVariables false
set_option linter.unusedSimpArgs false
namespace Go.Proofs.Ytefhfoioeoijlaa
/-- An operation comes into a list in order. -/
def insO : List OpD → OpD → List OpD
  | [], o => [o]
  | x :: L, o => if ltS x.at_ o.at_ then x :: insO L o else if x.at_ = o.at_ then x :: L else o :: x :: L
def sortO (l : List OpD) : List OpD := l.foldl insO []
def SrtO (L : List OpD) : Prop := L.Pairwise fun x y => ltS x.at_ y.at_ = true
section
variable {f : Nat → OpD}
def kx (f : Nat → OpD) (i j : Nat) : Prop := ltS (f i).at_ (f j).at_ = true
/-- The places that count among the first n: of one stamp the first. -/
def Heads (f : Nat → OpD) (n : Nat) (J : List Nat) : Prop := J.Pairwise (kx f) ∧ ∀ x, x ∈ J ↔ x < n ∧ ∀ j, j < x → (f j).at_ ≠ (f x).at_
theorem kx_nodup {J : List Nat} (h : J.Pairwise (kx f)) : J.Nodup := h.imp fun {a b} h e => by subst e; unfold kx at h; rw [ltS_irrefl] at h; cases h
theorem Heads.one {n : Nat} {J K : List Nat} (h : Heads f n J) (k : Heads f n K) : J = K := by
  refine sorted_one (lt := kx f) (fun x y h k => ?_) h.1 k.1 ?_
  · unfold kx at h k; rw [ltS_asymm h] at k; cases k
  · exact (List.perm_ext_iff_of_nodup (kx_nodup h.1) (kx_nodup k.1)).2 fun x => by rw [h.2, k.2]
/-- Of neighbours of one stamp the first is left. -/
inductive Thin (f : Nat → OpD) : List Nat → List Nat → Prop
  | nil : Thin f [] []
  | one (x) : Thin f [x] [x]
  | keep {P y x K} : Thin f (P ++ [y]) K → (f x).at_ ≠ (f y).at_ → Thin f (P ++ [y] ++ [x]) (K ++ [x])
  | drop {P y x K} : Thin f (P ++ [y]) K → (f x).at_ = (f y).at_ → Thin f (P ++ [y] ++ [x]) K
theorem Thin.len {P K : List Nat} (h : Thin f P K) : K.length ≤ P.length := by
  induction h with
  | nil => simp
  | one => simp
  | keep _ _ ih => simp at *; omega
  | drop _ _ ih => simp at *; omega
theorem Thin.heads {P K : List Nat} (h : Thin f P K) : P.Pairwise (lx f) → K.Pairwise (kx f) ∧ (∀ x ∈ K, x ∈ P) ∧ (∀ x ∈ P, ∃ y ∈ K, (f y).at_ = (f x).at_ ∧ y ≤ x) ∧ (∀ Q z, P = Q ++ [z] → ∀ x ∈ K, ltS (f x).at_ (f z).at_ = true ∨ (f x).at_ = (f z).at_) := by
  induction h with
  | nil => intro _; simp
  | one x =>
    intro _
    refine ⟨by simp, by simp, by simp, fun Q z e y hy => ?_⟩
    have : z = x := by
      have := congrArg List.getLast? e
      simpa using this.symm
    simp at hy; subst hy; subst this; exact .inr rfl
  | @keep P y x K h hne ih =>
    intro hs
    obtain ⟨s1, _, s3⟩ := List.pairwise_append.1 hs
    obtain ⟨a1, a2, a3, a4⟩ := ih s1
    have hyx : ltS (f y).at_ (f x).at_ = true := by
      rcases s3 y (by simp) x (by simp) with h | ⟨h, _⟩
      · exact h
      · exact absurd h.symm hne
    have hK : ∀ z ∈ K, ltS (f z).at_ (f x).at_ = true := fun z hz => by
      rcases a4 P y rfl z hz with h | h
      · exact ltS_trans h hyx
      · rw [h]; exact hyx
    refine ⟨List.pairwise_append.2 ⟨a1, by simp, fun z hz u hu => by simp at hu; subst hu; exact hK z hz⟩, fun z hz => ?_, fun z hz => ?_, fun Q u e z hz => ?_⟩
    · rcases List.mem_append.1 hz with hz | hz
      · exact List.mem_append_left _ (a2 z hz)
      · exact List.mem_append_right _ hz
    · rcases List.mem_append.1 hz with hz | hz
      · obtain ⟨v, hv, e1, e2⟩ := a3 z hz
        exact ⟨v, List.mem_append_left _ hv, e1, e2⟩
      · simp at hz; subst hz; exact ⟨z, by simp, rfl, Nat.le_refl _⟩
    · have : u = x := by
        have := congrArg List.getLast? e
        simpa using this.symm
      subst this
      rcases List.mem_append.1 hz with hz | hz
      · exact .inl (hK z hz)
      · simp at hz; subst hz; exact .inr rfl
  | @drop P y x K h he ih =>
    intro hs
    obtain ⟨s1, _, s3⟩ := List.pairwise_append.1 hs
    obtain ⟨a1, a2, a3, a4⟩ := ih s1
    have hyx : y < x := by
      rcases s3 y (by simp) x (by simp) with h | ⟨_, h⟩
      · rw [he, ltS_irrefl] at h; cases h
      · exact h
    refine ⟨a1, fun z hz => List.mem_append_left _ (a2 z hz), fun z hz => ?_, fun Q u e z hz => ?_⟩
    · rcases List.mem_append.1 hz with hz | hz
      · exact a3 z hz
      · simp at hz; subst hz
        obtain ⟨v, hv, e1, e2⟩ := a3 y (by simp)
        exact ⟨v, hv, by rw [e1, he], by omega⟩
    · have : u = x := by
        have := congrArg List.getLast? e
        simpa using this.symm
      subst this
      rw [he]; exact a4 P y rfl z hz
theorem Thin.done {n : Nat} {I K : List Nat} (h : Thin f I K) (hI : AllSorted f n I) : Heads f n K := by
  obtain ⟨a1, a2, a3, _⟩ := h.heads hI.1
  have hm : ∀ x, x ∈ I ↔ x < n := fun x => by rw [hI.2.mem_iff]; simp
  have huniq : ∀ u ∈ K, ∀ v ∈ K, (f u).at_ = (f v).at_ → u = v := by
    intro u hu v hv e
    obtain ⟨i, hi, rfl⟩ := List.mem_iff_getElem.1 hu
    obtain ⟨j, hj, rfl⟩ := List.mem_iff_getElem.1 hv
    rw [List.pairwise_iff_getElem] at a1
    rcases Nat.lt_trichotomy i j with h | h | h
    · have := a1 i j hi hj h; unfold kx at this; rw [e, ltS_irrefl] at this; cases this
    · subst h; rfl
    · have := a1 j i hj hi h; unfold kx at this; rw [e, ltS_irrefl] at this; cases this
  refine ⟨a1, fun x => ⟨fun hx => ⟨(hm x).1 (a2 x hx), fun j hj e => ?_⟩, fun ⟨hx, hf⟩ => ?_⟩⟩
  · obtain ⟨y, hy, e1, e2⟩ := a3 j ((hm j).2 (by have := (hm x).1 (a2 x hx); omega))
    have := huniq y hy x hx (by rw [e1, e])
    omega
  · obtain ⟨y, hy, e1, e2⟩ := a3 x ((hm x).2 hx)
    rcases Nat.lt_or_ge y x with h | h
    · exact absurd e1 (hf y h)
    · have : y = x := by omega
      rw [← this]; exact hy
/-! ### the fold -/
def insJ (f : Nat → OpD) : List Nat → Nat → List Nat
  | [], o => [o]
  | x :: L, o => if ltS (f x).at_ (f o).at_ then x :: insJ f L o else if (f x).at_ = (f o).at_ then x :: L else o :: x :: L
theorem insJ_map (f : Nat → OpD) (o : Nat) : ∀ J, (insJ f J o).map f = insO (J.map f) (f o)
  | [] => rfl
  | x :: J => by
    simp only [insJ, insO, List.map_cons]
    split
    · simp [insJ_map f o J]
    · split <;> rfl
theorem insJ_mem {J : List Nat} {o : Nat} (h : J.Pairwise (kx f)) : ∀ x, x ∈ insJ f J o ↔ x ∈ J ∨ x = o ∧ ∀ y ∈ J, (f y).at_ ≠ (f o).at_ := by
  induction J with
  | nil => intro x; simp [insJ]
  | cons z J ih =>
    obtain ⟨h1, h2⟩ := List.pairwise_cons.1 h
    intro x
    simp only [insJ]
    split
    · rename_i hz
      rw [List.mem_cons, ih h2 x, List.mem_cons, or_assoc]
      have : (f z).at_ ≠ (f o).at_ := ltS_ne hz
      simp [this]
    · split
      · rename_i he
        simp [he]
      · rename_i hz he
        have hoz : ltS (f o).at_ (f z).at_ = true := by
          cases hk : ltS (f o).at_ (f z).at_ with
          | true => rfl
          | false => exact absurd (ltS_tri (Bool.eq_false_iff.2 hz) hk) he
        have hall : ∀ y ∈ z :: J, (f y).at_ ≠ (f o).at_ := fun y hy => by
          rcases List.mem_cons.1 hy with rfl | hy
          · exact he
          · exact (ltS_ne (ltS_trans hoz (h1 y hy))).symm
        rw [List.mem_cons]
        constructor
        · rintro (rfl | hx)
          · exact .inr ⟨rfl, hall⟩
          · exact .inl hx
        · rintro (hx | ⟨rfl, _⟩)
          · exact .inr hx
          · exact .inl rfl
theorem insJ_pw {J : List Nat} {o : Nat} (h : J.Pairwise (kx f)) : (insJ f J o).Pairwise (kx f) := by
  induction J with
  | nil => simp [insJ]
  | cons z J ih =>
    obtain ⟨h1, h2⟩ := List.pairwise_cons.1 h
    simp only [insJ]
    split
    · rename_i hz
      refine List.pairwise_cons.2 ⟨fun y hy => ?_, ih h2⟩
      rcases (insJ_mem h2 y).1 hy with hy | ⟨rfl, _⟩
      · exact h1 y hy
      · exact hz
    · split
      · exact h
      · rename_i hz he
        have hoz : ltS (f o).at_ (f z).at_ = true := by
          cases hk : ltS (f o).at_ (f z).at_ with
          | true => rfl
          | false => exact absurd (ltS_tri (Bool.eq_false_iff.2 hz) hk) he
        refine List.pairwise_cons.2 ⟨fun y hy => ?_, h⟩
        rcases List.mem_cons.1 hy with rfl | hy
        · exact hoz
        · exact ltS_trans hoz (h1 y hy)
theorem Heads.step {n : Nat} {J : List Nat} (h : Heads f n J) : Heads f (n + 1) (insJ f J n) := by
  refine ⟨insJ_pw h.1, fun x => ?_⟩
  rw [insJ_mem h.1, h.2]
  have key : (∀ y ∈ J, (f y).at_ ≠ (f n).at_) ↔ ∀ j, j < n → (f j).at_ ≠ (f n).at_ := by
    constructor
    · intro hh j hj
      induction j using Nat.strongRecOn with
      | _ j ih =>
        by_cases hm : ∀ i, i < j → (f i).at_ ≠ (f j).at_
        · exact hh j ((h.2 j).2 ⟨hj, hm⟩)
        · simp only [Classical.not_forall] at hm
          obtain ⟨i, hi, he⟩ := hm
          have he := Classical.not_not.1 he
          rw [← he]; exact ih i hi (by omega)
    · intro hh y hy
      exact hh y ((h.2 y).1 hy).1
  rw [key]
  constructor
  · rintro (⟨h1, h2⟩ | ⟨rfl, h2⟩)
    · exact ⟨by omega, h2⟩
    · exact ⟨by omega, h2⟩
  · rintro ⟨h1, h2⟩
    rcases Nat.lt_or_ge x n with h | h
    · exact .inl ⟨h, h2⟩
    · have : x = n := by omega
      subst this; exact .inr ⟨rfl, h2⟩
theorem heads_fold (f : Nat → OpD) (n : Nat) : ∃ J, Heads f n J ∧ J.map f = sortO ((List.range n).map f) := by
  induction n with
  | zero => exact ⟨[], ⟨.nil, by simp⟩, rfl⟩
  | succ n ih =>
    obtain ⟨J, h1, h2⟩ := ih
    refine ⟨insJ f J n, h1.step, ?_⟩
    rw [insJ_map, h2, sortO, sortO, List.range_succ, List.map_append, List.foldl_append]
    rfl
theorem Thin.sortO {n : Nat} {I K : List Nat} (h : Thin f I K) (hI : AllSorted f n I) : K.map f = sortO ((List.range n).map f) := by
  obtain ⟨J, h1, h2⟩ := heads_fold f n
  rw [(h.done hI).one h1, h2]
end
/-- A list as its places. -/
def atO (L : List OpD) (i : Nat) : OpD := L.getD i default
theorem range_at (L : List OpD) : (List.range L.length).map (atO L) = L := by
  apply List.ext_getElem
  · simp
  · intro i h1 h2
    simp [atO, List.getD_eq_getElem?_getD, List.getElem?_eq_getElem h2]
/-! ### the fold keeps its list in order -/
theorem insO_mem {o x : OpD} : ∀ {L : List OpD}, x ∈ insO L o → x ∈ L ∨ x = o
  | [], h => by simp [insO] at h; exact .inr h
  | y :: L, h => by
    simp only [insO] at h
    split at h
    · rcases List.mem_cons.1 h with h | h
      · exact .inl (by simp [h])
      · rcases insO_mem h with h | h
        · exact .inl (by simp [h])
        · exact .inr h
    · split at h
      · exact .inl h
      · rcases List.mem_cons.1 h with h | h
        · exact .inr h
        · exact .inl h
theorem SrtO.ins {o : OpD} : ∀ {L : List OpD}, SrtO L → SrtO (insO L o)
  | [], _ => by simp [insO, SrtO]
  | x :: L, h => by
    obtain ⟨h1, h2⟩ := List.pairwise_cons.1 h
    simp only [insO]
    split
    · rename_i hx
      refine List.pairwise_cons.2 ⟨fun y hy => ?_, SrtO.ins h2⟩
      rcases insO_mem hy with hy | rfl
      · exact h1 y hy
      · exact hx
    · split
      · exact h
      · rename_i hx he
        have hoz : ltS o.at_ x.at_ = true := by
          cases hk : ltS o.at_ x.at_ with
          | true => rfl
          | false => exact absurd (ltS_tri (Bool.eq_false_iff.2 hx) hk) he
        refine List.pairwise_cons.2 ⟨fun y hy => ?_, h⟩
        rcases List.mem_cons.1 hy with rfl | hy
        · exact hoz
        · exact ltS_trans hoz (h1 y hy)
theorem foldO_srt {l : List OpD} : ∀ {L : List OpD}, SrtO L → SrtO (l.foldl insO L) := by
  induction l with
  | nil => intro L h; exact h
  | cons o l ih => intro L h; exact ih h.ins
theorem sortO_srt (l : List OpD) : SrtO (sortO l) := foldO_srt (by simp [SrtO])
theorem insO_len (o : OpD) : ∀ L : List OpD, (insO L o).length ≤ L.length + 1
  | [] => by simp [insO]
  | x :: L => by
    simp only [insO]
    split
    · have := insO_len o L; simp; omega
    · split <;> simp
theorem foldO_len (l : List OpD) : ∀ L : List OpD, (l.foldl insO L).length ≤ L.length + l.length := by
  induction l with
  | nil => intro L; simp
  | cons o l ih => intro L; have := ih (insO L o); have := insO_len o L; simp at *; omega
theorem sortO_len (l : List OpD) : (sortO l).length ≤ l.length := by have := foldO_len l []; simpa [sortO] using this
theorem foldO_mem {x : OpD} (l : List OpD) : ∀ L : List OpD, x ∈ l.foldl insO L → x ∈ L ∨ x ∈ l := by
  induction l with
  | nil => intro L h; exact .inl h
  | cons o l ih =>
    intro L h
    rcases ih _ h with h | h
    · rcases insO_mem h with h | h
      · exact .inl h
      · exact .inr (by simp [h])
    · exact .inr (by simp [h])
theorem sortO_mem {x : OpD} {l : List OpD} (h : x ∈ sortO l) : x ∈ l := by
  rcases foldO_mem l [] h with h | h
  · cases h
  · exact h
theorem insO_end {o : OpD} : ∀ {L : List OpD}, (∀ x ∈ L, ltS x.at_ o.at_ = true) → insO L o = L ++ [o]
  | [], _ => rfl
  | x :: L, h => by
    have ih : insO L o = L ++ [o] := insO_end fun y hy => h y (List.mem_cons_of_mem _ hy)
    rw [insO, if_pos (h x (by simp)), ih]; rfl
theorem foldO_app {l : List OpD} : ∀ {L : List OpD}, SrtO (L ++ l) → l.foldl insO L = L ++ l := by
  induction l with
  | nil => intro L _; simp
  | cons o l ih =>
    intro L h
    have h' : SrtO (L ++ [o] ++ l) := by simpa using h
    have he : insO L o = L ++ [o] := insO_end fun x hx => (List.pairwise_append.1 h).2.2 x hx o (by simp)
    rw [List.foldl_cons, he, ih h']; simp
/-- What is in order stays. -/
theorem sortO_of_srt {l : List OpD} (h : SrtO l) : sortO l = l := foldO_app (L := []) h
end Go.Proofs.Ytefhfoioeoijlaa
