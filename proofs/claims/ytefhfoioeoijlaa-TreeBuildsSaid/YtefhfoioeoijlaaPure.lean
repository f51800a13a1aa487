/- The tree of operations as a list of items in the order of their stamps: plain functions, no program. -/
import Derived.Test.YtefhfoioeoijlaaBase
set_option linter.unusedVariables false
set_option linter.unusedSimpArgs false
namespace Go.Proofs.Ytefhfoioeoijlaa

def ltS (a b : Stamp) : Bool := decide (a.t < b.t ∨ a.t = b.t ∧ a.w < b.w)
theorem ltS_irrefl (a : Stamp) : ltS a a = false := by simp [ltS]
theorem ltS_trans {a b c : Stamp} (h : ltS a b = true) (k : ltS b c = true) : ltS a c = true := by simp [ltS] at *; omega
theorem ltS_asymm {a b : Stamp} (h : ltS a b = true) : ltS b a = false := by simp [ltS] at *; omega
theorem ltS_tri {a b : Stamp} (h : ltS a b = false) (k : ltS b a = false) : a = b := by
  cases a; cases b; simp [ltS] at *; omega
theorem ltS_ne {a b : Stamp} (h : ltS a b = true) : a ≠ b := by
  rintro rfl; rw [ltS_irrefl] at h; cases h

def nilS : Stamp := ⟨0, 0⟩
def nilI : Item := ⟨nilS, nilS, ⟨#[]⟩, false, false, [], nilS⟩

def Srt (L : List Item) : Prop := L.Pairwise fun x y => ltS x.node y.node = true
def getI (L : List Item) (n : Stamp) : Option Item := L.find? fun x => decide (x.node = n)
def gotI (L : List Item) (n : Stamp) : Item := (getI L n).getD nilI
def hasI (L : List Item) (n : Stamp) : Bool := (getI L n).isSome
def putI (it : Item) : List Item → List Item
  | [] => [it]
  | x :: L => if ltS it.node x.node then it :: x :: L else if x.node = it.node then it :: L else x :: putI it L
def delI (n : Stamp) (L : List Item) : List Item := L.filter fun x => !decide (x.node = n)

theorem getI_some {L : List Item} {n : Stamp} {x : Item} (h : getI L n = some x) : x ∈ L ∧ x.node = n := by
  unfold getI at h
  exact ⟨List.mem_of_find?_eq_some h, by simpa using List.find?_some h⟩
theorem getI_none {L : List Item} {n : Stamp} : getI L n = none ↔ ∀ x ∈ L, x.node ≠ n := by
  unfold getI
  simp [List.find?_eq_none]
theorem Srt.unique {L : List Item} (h : Srt L) {x y : Item} (hx : x ∈ L) (hy : y ∈ L) (e : x.node = y.node) : x = y := by
  induction L with
  | nil => cases hx
  | cons z L ih =>
    obtain ⟨h1, h2⟩ := List.pairwise_cons.1 h
    rcases List.mem_cons.1 hx with ex | hx'
    · rcases List.mem_cons.1 hy with ey | hy'
      · rw [ex, ey]
      · rw [ex] at e
        exact absurd e (ltS_ne (h1 _ hy'))
    · rcases List.mem_cons.1 hy with ey | hy'
      · rw [ey] at e
        exact absurd e.symm (ltS_ne (h1 _ hx'))
      · exact ih h2 hx' hy'
theorem getI_mem {L : List Item} (h : Srt L) {x : Item} (hx : x ∈ L) : getI L x.node = some x := by
  cases hg : getI L x.node with
  | none => exact absurd rfl (getI_none.1 hg x hx)
  | some y =>
    obtain ⟨h1, h2⟩ := getI_some hg
    rw [h.unique h1 hx h2]
theorem mem_putI {it x : Item} : ∀ {L : List Item}, x ∈ putI it L → x = it ∨ x ∈ L
  | [], h => by simp [putI] at h; exact .inl h
  | y :: L, h => by
    simp only [putI] at h
    split at h
    · rcases List.mem_cons.1 h with h | h
      · exact .inl h
      · exact .inr h
    · split at h
      · rcases List.mem_cons.1 h with h | h
        · exact .inl h
        · exact .inr (by simp [h])
      · rcases List.mem_cons.1 h with h | h
        · exact .inr (by simp [h])
        · rcases mem_putI h with h | h
          · exact .inl h
          · exact .inr (by simp [h])
theorem Srt.putI {it : Item} : ∀ {L : List Item}, Srt L → Srt (putI it L)
  | [], _ => by simp [Go.Proofs.Ytefhfoioeoijlaa.putI, Srt]
  | y :: L, h => by
    obtain ⟨h1, h2⟩ := List.pairwise_cons.1 h
    simp only [Go.Proofs.Ytefhfoioeoijlaa.putI]
    split
    · rename_i hl
      refine List.pairwise_cons.2 ⟨fun z hz => ?_, h⟩
      rcases List.mem_cons.1 hz with rfl | hz
      · exact hl
      · exact ltS_trans hl (h1 z hz)
    · split
      · rename_i he
        refine List.pairwise_cons.2 ⟨fun z hz => ?_, h2⟩
        rw [← he]
        exact h1 z hz
      · rename_i hl he
        refine List.pairwise_cons.2 ⟨fun z hz => ?_, Srt.putI h2⟩
        rcases mem_putI hz with rfl | hz
        · cases hg : ltS y.node z.node with
          | true => rfl
          | false => exact absurd (ltS_tri hg (Bool.eq_false_iff.2 hl)) he
        · exact h1 z hz
theorem putI_new {it : Item} : ∀ {L : List Item}, (∀ x ∈ L, x.node ≠ it.node) → (putI it L).Perm (it :: L)
  | [], _ => List.Perm.refl _
  | y :: L, h => by
    simp only [putI]
    split
    · exact List.Perm.refl _
    · rw [if_neg (h y (by simp))]
      exact ((putI_new (fun x hx => h x (by simp [hx]))).cons y).trans (List.Perm.swap it y L)
theorem putI_old {it : Item} : ∀ {L : List Item} {k : Nat} {x : Item}, Srt L → L[k]? = some x → x.node = it.node → putI it L = L.set k it
  | y :: L, 0, x, h, hk, e => by
    simp at hk
    subst hk
    simp only [putI]
    rw [if_neg (by rw [← e, ltS_irrefl]; simp), if_pos e]
    rfl
  | y :: L, k + 1, x, h, hk, e => by
    obtain ⟨h1, h2⟩ := List.pairwise_cons.1 h
    have hx : x ∈ L := List.mem_of_getElem? (by simpa using hk)
    have hl := h1 x hx
    simp only [putI]
    rw [if_neg (by rw [← e, ltS_asymm hl]; simp), if_neg (by rw [← e]; exact ltS_ne hl), putI_old h2 (by simpa using hk) e]
    rfl
theorem Srt.perm_eq : ∀ {L L' : List Item}, Srt L → Srt L' → L.Perm L' → L = L'
  | [], L', _, _, h => (List.nil_perm.1 h).symm
  | x :: L, [], _, _, h => by have := h.length_eq; simp at this
  | x :: L, y :: L', h, h', hp => by
    obtain ⟨h1, h2⟩ := List.pairwise_cons.1 h
    obtain ⟨h1', h2'⟩ := List.pairwise_cons.1 h'
    have hx : x ∈ y :: L' := hp.mem_iff.1 (by simp)
    have hy : y ∈ x :: L := hp.mem_iff.2 (by simp)
    have e : x = y := by
      rcases List.mem_cons.1 hx with e | hx
      · exact e
      · rcases List.mem_cons.1 hy with e | hy
        · exact e.symm
        · have a := h1' x hx
          have b := h1 y hy
          rw [ltS_asymm a] at b
          cases b
    subst e
    rw [Srt.perm_eq h2 h2' (List.Perm.cons_inv hp)]

/-! ### what an operation does -/
def withinI (L : List Item) (n : Stamp) : Nat → Stamp → Bool
  | 0, _ => false
  | f + 1, m => if m = n then true else match getI L m with
    | none => false
    | some x => withinI L n f x.parent
def hangsI (L : List Item) : Nat → Stamp → Bool
  | 0, _ => false
  | f + 1, n => if n = nilS then true else match getI L n with
    | none => false
    | some x => if x.gone then false else hangsI L f x.parent
def dirI (L : List Item) (n : Stamp) : Bool := decide (n = nilS) || (gotI L n).dir
def nowI (L : List Item) (x : Item) (o : OpD) : Item × Bool :=
  if o.kind = 1 then (⟨o.node, o.parent, o.name, o.dir, false, [], nilS⟩, !decide (x.node = o.node) && dirI L o.parent)
  else if o.kind = 2 then ({ x with parent := o.parent, name := o.name, gone := false }, decide (x.node = o.node) && (dirI L o.parent && !withinI L o.node 301 o.parent))
  else if o.kind = 3 then ({ x with gone := true }, decide (x.node = o.node))
  else ({ x with data := o.data, by_ := o.at_ }, decide (x.node = o.node) && !x.dir)
end Go.Proofs.Ytefhfoioeoijlaa
