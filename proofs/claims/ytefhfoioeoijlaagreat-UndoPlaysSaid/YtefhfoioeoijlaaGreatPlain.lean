/- Plain laws of trees and logs; rows in parts (one text of several) -/
import Derived.Test.YtefhfoioeoijlaaGreatGN
import Derived.Test.YtefhfoioeoijlaaGreatBas
import Derived.Test.YtefhfoioeoijlaaGreatArg
import Derived.Test.YtefhfoioeoijlaaGreatStpR
set_option linter.unusedVariables false
set_option linter.unusedSimpArgs false
namespace Go.Proofs.YtefhfoioeoijlaaGreat
/-! ### a tree that is built -/
/-- From m up to the root it is k steps. -/
inductive Roots (L : List Item) : Stamp → Nat → Prop
  | root : Roots L nilS 0
  | step {m x k} : m ≠ nilS → getI L m = some x → Roots L x.parent k → Roots L m (k + 1)
theorem Roots.one {L : List Item} {m : Stamp} {k k' : Nat} (h : Roots L m k) (h' : Roots L m k') : k = k' := by
  induction h generalizing k' with
  | root =>
    cases h' with
    | root => rfl
    | step h1 _ _ => exact absurd rfl h1
  | step h1 h2 h3 ih =>
    cases h' with
    | root => exact absurd rfl h1
    | step _ h2' h3' =>
      rw [h2] at h2'; injection h2' with h2'; subst h2'
      rw [ih h3']
theorem Roots.at_ {L : List Item} {m : Stamp} {k : Nat} (h : Roots L m k) (hm : m ≠ nilS) : ∃ x, getI L m = some x := by
  cases h with
  | root => exact absurd rfl hm
  | step _ h2 _ => exact ⟨_, h2⟩
theorem Roots.inv {L : List Item} {m : Stamp} {k : Nat} {x : Item} (h : Roots L m k) (hm : m ≠ nilS) (hx : getI L m = some x) : ∃ j, k = j + 1 ∧ Roots L x.parent j := by
  cases h with
  | root => exact absurd rfl hm
  | step _ h2 h3 => rw [hx] at h2; injection h2 with h2; subst h2; exact ⟨_, rfl, h3⟩
theorem sub_len {α : Type} [DecidableEq α] : ∀ {l l' : List α}, l.Nodup → (∀ x ∈ l, x ∈ l') → l.length ≤ l'.length
  | [], _, _, _ => Nat.zero_le _
  | x :: l, l', hn, hs => by
    obtain ⟨h1, h2⟩ := List.nodup_cons.1 hn
    have hx := hs x (by simp)
    have := sub_len (l := l) (l' := l'.erase x) h2 fun y hy => (List.mem_erase_of_ne (by rintro rfl; exact h1 hy)).2 (hs y (by simp [hy]))
    rw [List.length_erase_of_mem hx] at this
    have : 0 < l'.length := List.length_pos_of_mem hx
    simp; omega
theorem Roots.chain {L : List Item} {m : Stamp} {k : Nat} (h : Roots L m k) : ∃ l : List Stamp, l.length = k ∧ (∀ x ∈ l, x ∈ L.map (·.node) ∧ ∃ j, 0 < j ∧ j ≤ k ∧ Roots L x j) ∧ l.Nodup := by
  induction h with
  | root => exact ⟨[], rfl, by simp, by simp⟩
  | @step m x k h1 h2 h3 ih =>
    obtain ⟨l, e1, e2, e3⟩ := ih
    have hr : Roots L m (k + 1) := .step h1 h2 h3
    refine ⟨m :: l, by simp [e1], fun y hy => ?_, List.nodup_cons.2 ⟨fun hm => ?_, e3⟩⟩
    · rcases List.mem_cons.1 hy with rfl | hy
      · obtain ⟨g1, g2⟩ := getI_some h2
        exact ⟨List.mem_map.2 ⟨x, g1, g2⟩, k + 1, by omega, by omega, hr⟩
      · obtain ⟨a, j, b, c, d⟩ := e2 y hy
        exact ⟨a, j, b, by omega, d⟩
    · obtain ⟨_, j, _, hj, hR⟩ := e2 m hm
      have := hr.one hR; omega
theorem Roots.le {L : List Item} {m : Stamp} {k : Nat} (h : Roots L m k) : k ≤ L.length := by
  obtain ⟨l, e1, e2, e3⟩ := h.chain
  have := sub_len e3 fun x hx => (e2 x hx).1
  simp at this; omega
theorem Roots.within {L : List Item} {m : Stamp} {k f : Nat} (h : Roots L m k) (hf : k < f) : withinI L nilS f m = true := by
  induction h generalizing f with
  | root => obtain ⟨f, rfl⟩ : ∃ g, f = g + 1 := ⟨f - 1, by omega⟩; simp [withinI]
  | step h1 h2 _ ih =>
    obtain ⟨f, rfl⟩ : ∃ g, f = g + 1 := ⟨f - 1, by omega⟩
    simp [withinI, h1, h2, ih (by omega : _ < f)]
theorem within_roots {L : List Item} {n : Stamp} (hn : getI L nilS = none) : ∀ {f : Nat} {m : Stamp} {k : Nat}, withinI L n f m = true → Roots L m k → ∃ j, j ≤ k ∧ Roots L n j
  | f + 1, m, k, h, hr => by
    simp only [withinI] at h
    by_cases hm : m = n
    · subst hm; exact ⟨k, Nat.le_refl _, hr⟩
    · rw [if_neg hm] at h
      cases hg : getI L m with
      | none => rw [hg] at h; cases h
      | some x =>
        rw [hg] at h
        cases hr with
        | root => rw [hn] at hg; cases hg
        | step h1 h2 h3 =>
          rw [hg] at h2; injection h2 with h2; subst h2
          obtain ⟨j, hj, hR⟩ := within_roots hn h h3
          exact ⟨j, by omega, hR⟩
theorem getI_put {it : Item} {m : Stamp} : ∀ {L : List Item}, getI (putI it L) m = if m = it.node then some it else getI L m
  | [] => by
    by_cases h : m = it.node
    · simp [putI, getI, h]
    · have h' : ¬ it.node = m := fun e => h e.symm
      simp [putI, getI, h, h']
  | y :: L => by
    have ih := getI_put (it := it) (m := m) (L := L)
    by_cases h1 : ltS it.node y.node = true
    · by_cases h : m = it.node
      · simp [putI, h1, getI, h]
      · have h' : ¬ it.node = m := fun e => h e.symm
        simp [putI, h1, getI, h, h']
    · by_cases h2 : y.node = it.node
      · by_cases h : m = it.node
        · simp [putI, h1, h2, getI, h, ltS_irrefl]
        · have h' : ¬ it.node = m := fun e => h e.symm
          simp [putI, h1, h2, getI, h, h', ltS_irrefl]
      · simp only [putI, h1, h2, if_false, Bool.false_eq_true]
        by_cases h3 : y.node = m
        · have h : ¬ m = it.node := fun e => h2 (h3.trans e)
          simp [getI, h3, h]
        · unfold getI at ih ⊢
          simp only [List.find?_cons, h3, decide_false]
          exact ih
/-- A tree whose items hang together. -/
structure Wf (L : List Item) : Prop where
  srt : Srt L
  nonil : ∀ x ∈ L, x.node ≠ nilS
  roots : ∀ x ∈ L, ∃ k, Roots L x.node k
  dirs : ∀ x ∈ L, x.parent = nilS ∨ ∃ y ∈ L, y.node = x.parent ∧ y.dir = true
  empt : ∀ x ∈ L, x.dir = true → x.data = []
theorem Wf.nil : Wf [] := ⟨by simp [Srt], by simp, by simp, by simp, by simp⟩
theorem Wf.nope {L : List Item} (h : Wf L) : getI L nilS = none := getI_none.2 h.nonil
theorem mem_put {it x : Item} {L : List Item} (hs : Srt L) (h : x ∈ putI it L) : x = it ∨ x ∈ L ∧ x.node ≠ it.node := by
  have hg := getI_mem hs.putI h
  rw [getI_put] at hg
  by_cases e : x.node = it.node
  · rw [if_pos e] at hg; injection hg with hg; exact .inl hg.symm
  · rw [if_neg e] at hg; exact .inr ⟨(getI_some hg).1, e⟩
theorem put_mem {it x : Item} {L : List Item} (hs : Srt L) (h : x ∈ L) (e : x.node ≠ it.node) : x ∈ putI it L := by
  have hg := getI_put (it := it) (m := x.node) (L := L)
  rw [if_neg e, getI_mem hs h] at hg
  exact (getI_some hg).1
theorem put_self {it : Item} {L : List Item} : it ∈ putI it L := by
  have hg := getI_put (it := it) (m := it.node) (L := L)
  rw [if_pos rfl] at hg
  exact (getI_some hg).1
theorem Wf.up {L : List Item} (h : Wf L) {p : Stamp} (hp : p = nilS ∨ ∃ y ∈ L, y.node = p ∧ y.dir = true) : ∃ k, Roots L p k := by
  rcases hp with rfl | ⟨y, hy, rfl, _⟩
  · exact ⟨0, .root⟩
  · exact h.roots y hy
theorem Wf.put {L : List Item} {it : Item} (h : Wf L) (hl : L.length ≤ 300) (hn : it.node ≠ nilS) (hp : it.parent = nilS ∨ ∃ y ∈ L, y.node = it.parent ∧ y.dir = true) (hd : ∀ old, getI L it.node = some old → old.dir = it.dir) (he : it.dir = true → it.data = [])
    (ha : (∃ old, getI L it.node = some old ∧ old.parent = it.parent) ∨ withinI L it.node 301 it.parent = false) : Wf (putI it L) := by
  have hdir : ∀ p, (p = nilS ∨ ∃ y ∈ L, y.node = p ∧ y.dir = true) → p = nilS ∨ ∃ y ∈ putI it L, y.node = p ∧ y.dir = true := by
    rintro p (e | ⟨y, hy, e1, e2⟩)
    · exact .inl e
    · by_cases e : y.node = it.node
      · refine .inr ⟨it, put_self, by rw [← e, e1], ?_⟩
        rw [← hd y (by rw [← e]; exact getI_mem h.srt hy)]; exact e2
      · exact .inr ⟨y, put_mem h.srt hy e, e1, e2⟩
  refine ⟨h.srt.putI, fun x hx => ?_, fun x hx => ?_, fun x hx => ?_, fun x hx => ?_⟩
  · rcases mem_put h.srt hx with rfl | ⟨hx, _⟩
    · exact hn
    · exact h.nonil x hx
  · have key : ∀ m k, Roots L m k → ∃ k', Roots (putI it L) m k' := by
      rcases ha with ⟨old, ho, hop⟩ | hw
      · intro m k hr
        refine ⟨k, ?_⟩
        induction hr with
        | root => exact .root
        | @step m x k h1 h2 h3 ih =>
          by_cases e : m = it.node
          · refine .step (x := it) h1 (by rw [getI_put, if_pos e]) ?_
            rw [e, ho] at h2; injection h2 with h2
            rw [← hop, h2]; exact ih
          · exact .step h1 (by rw [getI_put, if_neg e]; exact h2) ih
      · obtain ⟨kp, hkp⟩ := h.up hp
        have c1 : ∀ m k f, Roots L m k → k < f → withinI L it.node f m = false → Roots (putI it L) m k := by
          intro m k f hr
          induction hr generalizing f with
          | root => intro _ _; exact .root
          | @step m x k h1 h2 h3 ih =>
            intro hf hwf
            obtain ⟨f, rfl⟩ : ∃ g, f = g + 1 := ⟨f - 1, by omega⟩
            simp only [withinI] at hwf
            by_cases e : m = it.node
            · rw [if_pos e] at hwf; cases hwf
            · rw [if_neg e, h2] at hwf
              exact .step h1 (by rw [getI_put, if_neg e]; exact h2) (ih f (by omega) hwf)
        have hR : Roots (putI it L) it.node (kp + 1) := .step (x := it) hn (by rw [getI_put, if_pos rfl]) (c1 _ _ 301 hkp (by have := hkp.le; omega) hw)
        intro m k hr
        induction hr with
        | root => exact ⟨0, .root⟩
        | @step m x k h1 h2 h3 ih =>
          by_cases e : m = it.node
          · exact ⟨_, e ▸ hR⟩
          · obtain ⟨k', ih⟩ := ih
            exact ⟨k' + 1, .step h1 (by rw [getI_put, if_neg e]; exact h2) ih⟩
    rcases mem_put h.srt hx with rfl | ⟨hx, _⟩
    · rcases ha with ⟨old, ho, _⟩ | hw
      · obtain ⟨g1, g2⟩ := getI_some ho
        obtain ⟨k, hk⟩ := h.roots old g1
        rw [g2] at hk
        exact key _ k hk
      · obtain ⟨kp, hkp⟩ := h.up hp
        obtain ⟨k', hk'⟩ := key _ _ hkp
        exact ⟨k' + 1, .step (x := x) hn (by rw [getI_put, if_pos rfl]) hk'⟩
    · obtain ⟨k, hk⟩ := h.roots x hx
      exact key _ k hk
  · rcases mem_put h.srt hx with rfl | ⟨hx, _⟩
    · exact hdir _ hp
    · exact hdir _ (h.dirs x hx)
  · rcases mem_put h.srt hx with rfl | ⟨hx, _⟩
    · exact he
    · exact h.empt x hx
theorem doI_srt {L : List Item} {o : OpD} (hs : Srt L) : Srt (doI L o).2 := by
  unfold doI
  split
  · exact hs
  · split
    · exact hs
    · show Srt (if (nowI L (gotI L o.node) o).2 = true then putI (nowI L (gotI L o.node) o).1 L else L)
      split
      · exact hs.putI
      · exact hs
theorem dirI_up {L : List Item} {p : Stamp} (h : dirI L p = true) : p = nilS ∨ ∃ y ∈ L, y.node = p ∧ y.dir = true := by
  unfold dirI at h
  rw [Bool.or_eq_true] at h
  rcases h with h | h
  · exact .inl (of_decide_eq_true h)
  · unfold gotI at h
    cases hg : getI L p with
    | none => rw [hg] at h; cases h
    | some y =>
      rw [hg] at h
      obtain ⟨g1, g2⟩ := getI_some hg
      exact .inr ⟨y, g1, g2, h⟩
theorem got_some {L : List Item} {n : Stamp} (hn : n ≠ nilS) (h : (gotI L n).node = n) : getI L n = some (gotI L n) := by
  unfold gotI at h ⊢
  cases hg : getI L n with
  | none => rw [hg] at h; exact absurd h.symm hn
  | some y => rfl
theorem Wf.doI {L : List Item} (h : Wf L) (hl : L.length ≤ 300) (o : OpD) : Wf (doI L o).2 := by
  unfold Go.Proofs.YtefhfoioeoijlaaGreat.doI
  split
  · exact h
  · split
    · exact h
    · rename_i h1 h2
      show Wf (if (nowI L (gotI L o.node) o).2 = true then putI (nowI L (gotI L o.node) o).1 L else L)
      split
      · rename_i h3
        have hr : rightB o = true := by simpa using h1
        have hn : o.node ≠ nilS := by
          have h5 : stR o.node = true := by unfold rightB at hr; simp only [Bool.and_eq_true] at hr; exact hr.2.1
          intro e; rw [e] at h5; cases h5
        have hnode := nowI_node h3
        have same : (gotI L o.node).node = o.node → (gotI L o.node) ∈ L := fun e => (getI_some (got_some hn e)).1
        unfold nowI at h3 hnode ⊢
        by_cases k1 : o.kind = 1
        · rw [if_pos k1] at h3 hnode ⊢
          simp only [Bool.and_eq_true, Bool.not_eq_true', decide_eq_false_iff_not] at h3
          have hg : getI L o.node = none := by
            cases hg : getI L o.node with
            | none => rfl
            | some y => have : gotI L o.node = y := by simp [gotI, hg]
                        rw [this] at h3; exact absurd (getI_some hg).2 h3.1
          refine h.put hl hn (dirI_up h3.2) (fun old ho => by rw [hg] at ho; cases ho) (fun _ => rfl) (.inr ?_)
          cases hw : withinI L o.node 301 o.parent with
          | false => rfl
          | true =>
            obtain ⟨kp, hkp⟩ := h.up (dirI_up h3.2)
            obtain ⟨j, _, hR⟩ := within_roots h.nope hw hkp
            obtain ⟨z, hz⟩ := hR.at_ hn
            rw [hg] at hz; cases hz
        · rw [if_neg k1] at h3 hnode ⊢
          by_cases k2 : o.kind = 2
          · rw [if_pos k2] at h3 hnode ⊢
            simp only [Bool.and_eq_true, Bool.not_eq_true', decide_eq_true_eq] at h3
            have hx := same h3.1
            have hg := got_some hn h3.1
            refine h.put hl (by rw [hnode]; exact hn) (dirI_up h3.2.1) (fun old ho => ?_) (fun e => h.empt (gotI L o.node) hx e) (.inr ?_)
            · rw [hnode, hg] at ho; injection ho with ho; rw [← ho]
            · rw [hnode]; exact h3.2.2
          · rw [if_neg k2] at h3 hnode ⊢
            by_cases k3 : o.kind = 3
            · rw [if_pos k3] at h3 hnode ⊢
              have e3 : (gotI L o.node).node = o.node := of_decide_eq_true h3
              have hx := same e3
              have hg := got_some hn e3
              refine h.put hl (by rw [hnode]; exact hn) (h.dirs (gotI L o.node) hx) (fun old ho => ?_) (fun e => h.empt (gotI L o.node) hx e) (.inl ⟨gotI L o.node, by show getI L (gotI L o.node).node = _; rw [e3]; exact hg, rfl⟩)
              rw [hnode, hg] at ho; injection ho with ho; rw [← ho]
            · rw [if_neg k3] at h3 hnode ⊢
              simp only [Bool.and_eq_true, Bool.not_eq_true', decide_eq_true_eq] at h3
              have hx := same h3.1
              have hg := got_some hn h3.1
              refine h.put hl (by rw [hnode]; exact hn) (h.dirs (gotI L o.node) hx) (fun old ho => ?_) (fun e => ?_) (.inl ⟨gotI L o.node, by show getI L (gotI L o.node).node = _; rw [h3.1]; exact hg, rfl⟩)
              · rw [hnode, hg] at ho; injection ho with ho; rw [← ho]
              · rw [show (gotI L o.node).dir = true from e] at h3; cases h3.2
      · exact h
theorem Roots.hangs {L : List Item} {m : Stamp} {k : Nat} (h : Roots L m k) : ∀ f g, k < f → k < g → hangsI L f m = hangsI L g m := by
  induction h with
  | root =>
    intro f g hf hg
    obtain ⟨f, rfl⟩ : ∃ x, f = x + 1 := ⟨f - 1, by omega⟩
    obtain ⟨g, rfl⟩ : ∃ x, g = x + 1 := ⟨g - 1, by omega⟩
    simp [hangsI]
  | step h1 h2 _ ih =>
    intro f g hf hg
    obtain ⟨f, rfl⟩ : ∃ x, f = x + 1 := ⟨f - 1, by omega⟩
    obtain ⟨g, rfl⟩ : ∃ x, g = x + 1 := ⟨g - 1, by omega⟩
    simp [hangsI, h1, h2, ih f g (by omega) (by omega)]
theorem Wf.item {L : List Item} (h : Wf L) (hl : L.length ≤ 300) {x : Item} (hx : x ∈ L) : withinI L x.node 301 x.parent = false ∧ withinI L nilS 301 x.node = true ∧ (x.parent ≠ nilS → hasI L x.parent = true ∧ (gotI L x.parent).dir = true) ∧
    hangsI L 301 x.node = (!x.gone && hangsI L 301 x.parent) ∧ (x.dir = true → x.data = []) := by
  obtain ⟨k, hk⟩ := h.roots x hx
  have hle := hk.le
  have hg := getI_mem h.srt hx
  obtain ⟨k', rfl, hp⟩ : ∃ j, k = j + 1 ∧ Roots L x.parent j := by
    exact hk.inv (h.nonil x hx) hg
  refine ⟨?_, hk.within (by omega), fun hne => ?_, ?_, h.empt x hx⟩
  · cases hw : withinI L x.node 301 x.parent with
    | false => rfl
    | true =>
      obtain ⟨j, hj, hR⟩ := within_roots h.nope hw hp
      have := hk.one hR; omega
  · rcases h.dirs x hx with e | ⟨y, hy, e1, e2⟩
    · exact absurd e hne
    · have hgy := getI_mem h.srt hy
      rw [e1] at hgy
      exact ⟨by simp [hasI, hgy], by simp [gotI, hgy, e2]⟩
  · have e := hp.hangs 300 301 (by omega) (by omega)
    have e2 : hangsI L (300 + 1) x.node = if x.gone then false else hangsI L 300 x.parent := by
      rw [hangsI, if_neg (h.nonil x hx), hg]
    rw [show (301 : Nat) = 300 + 1 from rfl, e2, e]
    cases x.gone
    · rfl
    · rfl
end Go.Proofs.YtefhfoioeoijlaaGreat

namespace Go.Proofs.YtefhfoioeoijlaaGreat
open Go Go.RowKit Go.Sort


theorem delI_srt {n : Stamp} {L : List Item} (h : Srt L) : Srt (delI n L) := h.filter _
theorem delI_none {n : Stamp} {L : List Item} (h : ∀ x ∈ L, x.node ≠ n) : delI n L = L := List.filter_eq_self.2 fun x hx => by simpa using h x hx
theorem delI_len (n : Stamp) (L : List Item) : (delI n L).length ≤ L.length := List.length_filter_le _ _
theorem erase_filter {n : Stamp} : ∀ {xs : List Item} {j : Nat} {x : Item}, xs[j]? = some x → x.node = n → (∀ y ∈ xs, ∀ z ∈ xs, y.node = z.node → y = z) → xs.Nodup → xs.eraseIdx j = delI n xs
  | [], j, x, h, _, _, _ => by simp at h
  | y :: xs, 0, x, h, hn, hu, hd => by
    simp at h; subst h
    have : delI n xs = xs := delI_none fun z hz e => by
      have := hu y (by simp) z (by simp [hz]) (hn.trans e.symm)
      subst this
      exact (List.nodup_cons.1 hd).1 hz
    unfold delI at this ⊢
    simp only [List.eraseIdx_cons_zero, List.filter_cons, hn]
    simpa using this.symm
  | y :: xs, j + 1, x, h, hn, hu, hd => by
    have h' : xs[j]? = some x := by simpa using h
    have ih := erase_filter h' hn (fun a ha b hb => hu a (by simp [ha]) b (by simp [hb])) (List.nodup_cons.1 hd).2
    have hy : y.node ≠ n := fun e => by
      have := hu y (by simp) x (by simp [List.mem_of_getElem? h']) (e.trans hn.symm)
      subst this
      exact (List.nodup_cons.1 hd).1 (List.mem_of_getElem? h')
    unfold delI at ih ⊢
    simp only [List.eraseIdx_cons_succ, List.filter_cons, ih]
    rw [if_pos (by simpa using hy)]
theorem eraseIdx_sub {α : Type} {l : List α} {j : Nat} {x : α} (h : x ∈ l.eraseIdx j) : x ∈ l := List.mem_of_mem_eraseIdx h

/-- 'delete(m, n)'. -/
theorem MapIs.delete {B : Nat} {w : World} {r : Nat} {L : List Item} (h : MapIs B w r L) (hB : B ≤ r) (n : Stamp) (ty : TypeId) :
    ∃ w', (Builtin.delete_ #[86, 35] ty #[.map (some r), stV n]).run Tryz.prog w = .ok (.tuple #[]) w' ∧ w.grownBy w' (some r) ∧ MapIs B w' r (delI n L) := by
  have hlt := h.lt
  have hno := h.noCells
  obtain ⟨es, clock, xs, hr, hp, hperm, hs, hnd, hcl⟩ := h
  cases hl : locate n es.toList xs 0 with
  | none =>
    have hnone := (locate_none hp.length).1 hl
    have hg := putMap_grown w r es clock
    refine ⟨putMap w r es clock, ?_, hg, ?_⟩
    · simp [Builtin.delete_, map_under, getObj, setObj, Sem.run, hr, stamp_check, run_findKey n w es.toList xs (keys_of hp), hl, putMap]
    · rw [delI_none fun x hx => hnone x (hperm.mem_iff.2 hx)]
      exact ⟨es, clock, xs, by show (w.heap.setIfInBounds r _)[r]? = _; rw [Array.getElem?_setIfInBounds_self, if_pos hlt], hp.mono fun e x he => he.grown hg hB (fun cs fr => hno cs _ fr), hperm, hs, hnd, hcl⟩
  | some jv =>
    obtain ⟨j, v⟩ := jv
    obtain ⟨k, e, x, hk, he, hx, hn, hv⟩ := locate_some hl
    obtain rfl : j = k := by omega
    have hg := putMap_grown w r (es.eraseIdxIfInBounds j) clock
    have hlist : (es.eraseIdxIfInBounds j).toList = es.toList.eraseIdx j := by simp
    have hxs : xs.Nodup := (hperm.nodup_iff).2 (hs.imp fun {a b} h e => by subst e; rw [ltS_irrefl] at h; cases h)
    have hun : ∀ y ∈ xs, ∀ z ∈ xs, y.node = z.node → y = z := fun y hy z hz e => hs.unique (hperm.mem_iff.1 hy) (hperm.mem_iff.1 hz) e
    refine ⟨putMap w r (es.eraseIdxIfInBounds j) clock, ?_, hg, ?_⟩
    · simp [Builtin.delete_, map_under, getObj, setObj, Sem.run, hr, stamp_check, run_findKey n w es.toList xs (keys_of hp), hl, putMap]
    · refine ⟨_, clock, xs.eraseIdx j, by show (w.heap.setIfInBounds r _)[r]? = _; rw [Array.getElem?_setIfInBounds_self, if_pos hlt], ?_, ?_, delI_srt hs, ?_, ?_⟩
      · rw [hlist]; exact Pair.erase (hp.mono fun e x he => he.grown hg hB (fun cs fr => hno cs _ fr))
      · rw [erase_filter hx hn hun hxs]; exact hperm.filter _
      · rw [hlist]; exact hnd.sublist ((List.eraseIdx_sublist _ _).map _)
      · intro e' he'; rw [hlist] at he'; exact hcl e' (eraseIdx_sub he')
end Go.Proofs.YtefhfoioeoijlaaGreat

namespace Go.Proofs.YtefhfoioeoijlaaGreat
open Go Go.RowKit Go.Sort

/-- What Set makes of a tree's items. -/
def setT (it : Item) (there : Bool) (L : List Item) : List Item := if there then putI it L else delI it.node L
section
variable {P : Program} {d : Option Tmp} {ty : TypeId} {pos : String} {af : Array Edge} {g : Option (Nat × Bool)} {ρ : Operand → Value} {w w' : World}
theorem r_mapUpdate {t : TypeId} {m k v : Operand} {mv kv vv : Value} (hm : ρ m = mv) (hk : ρ k = kv) (hv : ρ v = vv) (h : (Instr.mapUpdate t mv kv vv).run P w = .ok () w') : (execOp ρ ⟨d, .mapUpdate t m k v, ty, pos, af, g⟩).run P w = .ok .skip w' := by
  simp [execOp, hm, hk, hv, h]
theorem r_delete {t k : TypeId} {m x : Operand} {mv kv : Value} (hm : ρ m = mv) (hk : ρ x = kv) (h : (Builtin.delete_ #[t, k] ty #[mv, kv]).run P w = .ok (.tuple #[]) w') : (execOp ρ ⟨d, .call { callee := Callee.builtin Builtin.delete, args := #[m, x], argTypes := #[t, k] }, ty, pos, af, g⟩).run P w = .ok (.value (.tuple #[])) w' := by
  simp [execOp, resolve, hm, hk, invoke, builtin, h]
end
theorem TreeIs.put {B : Nat} {w w' : World} {tb r : Nat} {L L' : List Item} (h : TreeIs B w tb r L) (c : Chg w w' r) (hM : MapIs B w' r L') (hl : L'.length ≤ 300) : TreeIs B w' tb r L' := by
  have hne : tb ≠ r := fun e => h.2.2.2.1.noCells _ _ _ (by rw [← e]; exact h.1)
  exact ⟨chg_ob c hne h.1, h.2.1, h.2.2.1, hM, hl⟩
end Go.Proofs.YtefhfoioeoijlaaGreat

namespace Go.Proofs.YtefhfoioeoijlaaGreat
/-! ### set back -/
theorem putI_put {x y : Item} (e : x.node = y.node) : ∀ {L : List Item}, putI x (putI y L) = putI x L
  | [] => by simp [putI, e, ltS_irrefl]
  | z :: L => by
    by_cases h1 : ltS y.node z.node = true
    · simp [putI, h1, e, ltS_irrefl]
    · by_cases h2 : z.node = y.node
      · simp [putI, h1, h2, e, ltS_irrefl]
      · have ih := putI_put e (L := L)
        simp [putI, h1, h2, e, ih]
theorem putI_back {x : Item} : ∀ {L : List Item}, Srt L → x ∈ L → putI x L = L
  | y :: L, h, hx => by
    obtain ⟨h1, h2⟩ := List.pairwise_cons.1 h
    rcases List.mem_cons.1 hx with rfl | hx
    · simp [putI, ltS_irrefl]
    · have hl := h1 x hx
      have hn : ¬ y.node = x.node := ltS_ne hl
      simp [putI, ltS_asymm hl, hn, putI_back h2 hx]
theorem delI_put {y : Item} {n : Stamp} (e : y.node = n) {L : List Item} : delI n (putI y L) = delI n L := by
  subst e
  induction L with
  | nil => simp [putI, delI]
  | cons z L ih =>
    unfold delI at ih ⊢
    by_cases h1 : ltS y.node z.node = true
    · simp [putI, h1]
    · by_cases h2 : z.node = y.node
      · simp [putI, h2, ltS_irrefl]
      · simp only [putI, h1, h2, if_false, Bool.false_eq_true]
        simp only [List.filter_cons, h2, decide_false, Bool.not_false, if_true, ih]
theorem doI_kind {L : List Item} {o : OpD} (h : (doI L o).1.2.2 ≠ 0) : (doI L o).2 = L := by
  unfold doI at h ⊢
  split
  · rfl
  · split
    · rfl
    · rename_i h1 h2
      rw [if_neg h1, if_neg h2] at h
      exact absurd rfl h
/-- What an operation told, set back, leaves the items as they were. -/
theorem undo_is {L : List Item} {o : OpD} (hs : Srt L) (h : (doI L o).1.2.2 = 0) : (doI L o).1.2.1 = hasI L o.node ∧ (doI L o).1.1 = gotI L o.node ∧ rightB o = true ∧
    (∀ x : Item, x.node = o.node → (hasI L o.node = true → x = gotI L o.node) → setT x (hasI L o.node) (doI L o).2 = L) := by
  unfold doI at h ⊢
  by_cases h1 : rightB o = false
  · rw [if_pos h1] at h; cases h
  · rw [if_neg h1] at h ⊢
    by_cases h2 : (nowI L (gotI L o.node) o).2 = true ∧ hasI L o.node = false ∧ 300 ≤ L.length
    · rw [if_pos h2] at h; cases h
    · rw [if_neg h2]
      refine ⟨rfl, rfl, by simpa using h1, fun x hx hg => ?_⟩
      show setT x (hasI L o.node) (if (nowI L (gotI L o.node) o).2 = true then putI (nowI L (gotI L o.node) o).1 L else L) = L
      cases hh : hasI L o.node with
      | true =>
        have hxe := hg hh
        have hxL : x ∈ L := by
          unfold hasI at hh; unfold gotI at hxe
          cases hk : getI L o.node with
          | none => rw [hk] at hh; cases hh
          | some y => rw [hk] at hxe; rw [hxe]; exact (getI_some hk).1
        simp only [setT, if_true]
        split
        · rename_i hn
          rw [putI_put (by rw [hx, nowI_node hn]), putI_back hs hxL]
        · exact putI_back hs hxL
      | false =>
        have hk : getI L o.node = none := by
          unfold hasI at hh
          cases hk : getI L o.node with
          | none => rfl
          | some y => rw [hk] at hh; cases hh
        simp only [setT, Bool.false_eq_true, if_false, hx]
        split
        · rename_i hn
          rw [delI_put (nowI_node hn), delI_none (getI_none.1 hk)]
        · exact delI_none (getI_none.1 hk)
end Go.Proofs.YtefhfoioeoijlaaGreat

namespace Go.Proofs.YtefhfoioeoijlaaGreat
/-- What a step keeps of an operation that is done at L. -/
def recS (L : List Item) (o : OpD) : StepD := ⟨o, if (doI L o).1.2.1 then (doI L o).1.1 else { (doI L o).1.1 with node := o.node }, (doI L o).1.2.1, decide ((doI L o).1.2.2 = 0)⟩
/-- The steps of operations, done one behind the other from L on. -/
def recAll : List Item → List OpD → List StepD
  | _, [] => []
  | L, o :: os => recS L o :: recAll (playI L o) os
/-- A step is undone. -/
def undoS (M : List Item) (s : StepD) : List Item := if s.did then setT s.was s.there M else M
theorem undo_rec {L : List Item} {o : OpD} (hs : Srt L) : undoS (playI L o) (recS L o) = L := by
  unfold undoS recS playI
  by_cases hk : (doI L o).1.2.2 = 0
  · obtain ⟨h1, h2, h3, h4⟩ := undo_is hs hk
    simp only [hk, decide_true, if_true]
    rw [h1, h2]
    refine h4 _ ?_ fun hh => ?_
    · cases hh : hasI L o.node with
      | true => simp only [if_true]; exact gotI_node hh
      | false => rfl
    · simp only [hh, if_true]
  · simp only [hk, decide_false, Bool.false_eq_true, if_false]
    exact doI_kind hk
theorem play_srt {L : List Item} (q : List OpD) (h : Srt L) : Srt (q.foldl playI L) := by
  induction q generalizing L with
  | nil => exact h
  | cons o q ih => exact ih (doI_srt h)
theorem undo_all {L : List Item} (q : List OpD) (h : Srt L) : (recAll L q).reverse.foldl undoS (q.foldl playI L) = L := by
  induction q generalizing L with
  | nil => rfl
  | cons o q ih =>
    simp only [recAll, List.reverse_cons, List.foldl_append, List.foldl_cons, List.foldl_nil]
    rw [ih (L := playI L o) (doI_srt h)]
    exact undo_rec h
theorem recAll_app (p q : List OpD) (L : List Item) : recAll L (p ++ q) = recAll L p ++ recAll (p.foldl playI L) q := by
  induction p generalizing L with
  | nil => rfl
  | cons o p ih => simp only [List.cons_append, recAll, List.foldl_cons, ih]
theorem recAll_len (p : List OpD) (L : List Item) : (recAll L p).length = p.length := by
  induction p generalizing L with
  | nil => rfl
  | cons o p ih => simp [recAll, ih]
theorem recAll_ops (p : List OpD) (L : List Item) : (recAll L p).map (·.o) = p := by
  induction p generalizing L with
  | nil => rfl
  | cons o p ih => simp [recAll, ih, recS]
theorem cmpS_zero {a b : Stamp} : cmpS a b = 0 ↔ a = b := by
  unfold cmpS orI
  constructor
  · intro h
    split at h
    · rename_i h1
      have e1 := cmpI_zero.1 h1
      have e2 := cmpI_zero.1 h
      cases a; cases b; simp at e1 e2; simp [e1, e2]
    · rename_i h1; exact absurd h h1
  · rintro rfl
    rw [if_pos (cmpI_zero.2 rfl)]; exact cmpI_zero.2 rfl
/-- The search for a stamp among the steps. -/
def Seek (S : List StepD) (m : Stamp) (i j : Nat) : Prop := i ≤ j ∧ j ≤ S.length ∧ (i = 0 ∨ ∃ s, S[i - 1]? = some s ∧ ltS s.o.at_ m = true) ∧ (j = S.length ∨ ∃ s, S[j]? = some s ∧ ltS s.o.at_ m = false)
theorem Seek.first (S : List StepD) (m : Stamp) : Seek S m 0 S.length := ⟨Nat.zero_le _, Nat.le_refl _, .inl rfl, .inl rfl⟩
theorem Seek.yes {S : List StepD} {m : Stamp} {i j h : Nat} {s : StepD} (k : Seek S m i j) (h1 : i ≤ h) (h2 : h < j) (hs : S[h]? = some s) (hl : ltS s.o.at_ m = true) : Seek S m (h + 1) j := ⟨h2, k.2.1, .inr ⟨s, by simpa using hs, hl⟩, k.2.2.2⟩
theorem Seek.no {S : List StepD} {m : Stamp} {i j h : Nat} {s : StepD} (k : Seek S m i j) (h1 : i ≤ h) (h2 : h < j) (hs : S[h]? = some s) (hl : ltS s.o.at_ m = false) : Seek S m i h := ⟨h1, by have := k.2.1; omega, k.2.2.1, .inr ⟨s, hs, hl⟩⟩
/-- Whether the stamp is there, and its place. -/
def Found (S : List StepD) (m : Stamp) (i : Nat) (f : Bool) : Prop := Seek S m i i ∧ (f = true → ∃ s, S[i]? = some s ∧ s.o.at_ = m) ∧ (f = false → ∀ s, S[i]? = some s → s.o.at_ ≠ m)
theorem Found.out {S : List StepD} {m : Stamp} {i j : Nat} (k : Seek S m i j) (hij : ¬ i < j) (hi : ¬ i < S.length) : Found S m i false := by
  have e : j = i := by have := k.1; omega
  subst e
  exact ⟨k, (by nofun), fun _ s hs => absurd (List.getElem?_eq_some_iff.1 hs).1 hi⟩
theorem Found.at_ {S : List StepD} {m : Stamp} {i j : Nat} {s : StepD} (k : Seek S m i j) (hij : ¬ i < j) (hs : S[i]? = some s) : Found S m i (decide (cmpS s.o.at_ m = 0)) := by
  have e : j = i := by have := k.1; omega
  subst e
  refine ⟨k, fun h => ⟨s, hs, cmpS_zero.1 (of_decide_eq_true h)⟩, fun h t ht => ?_⟩
  rw [hs] at ht; injection ht with ht; subst ht
  exact fun e => of_decide_eq_false h (cmpS_zero.2 e)
end Go.Proofs.YtefhfoioeoijlaaGreat

namespace Go.Proofs.YtefhfoioeoijlaaGreat
open Go Go.RowKit Go.Sort

/-- Operations that lie one behind the other, wherever. -/
def SubO (B : Nat) (w : World) (v : Value) (L : List OpD) : Prop :=
  ∃ A c, v = .slice A L.length c ∧ (L ≠ [] → ∃ b o ds, A = some ⟨b, o, none⟩ ∧ b < w.heap.size ∧ Pair (fun x d => Dat B w d x.data) L ds ∧ ∀ (j : Nat) (u : Value), (flatO L ds)[j]? = some u → w.cell? ⟨b, o + j, none⟩ = some u)
theorem SubO.up {B : Nat} {w w' : World} {v : Value} {L : List OpD} (h : SubO B w v L) (u : Up w w') : SubO B w' v L := by
  obtain ⟨A, c, rfl, h1⟩ := h
  refine ⟨A, c, rfl, fun hL => ?_⟩
  obtain ⟨b, o, ds, hA, hb, hp, hc⟩ := h1 hL
  exact ⟨b, o, ds, hA, Nat.lt_of_lt_of_le hb u.size, hp.mono fun x d hd => hd.up u, fun j v hj => (u.cell (p := ⟨b, o + j, none⟩) hb).trans (hc j v hj)⟩
theorem flatO_drop : ∀ {L : List OpD} {ds : List Value} (k : Nat), L.length = ds.length → flatO (L.drop k) (ds.drop k) = (flatO L ds).drop (k * 10)
  | [], [], k, _ => by simp [flatO]
  | x :: L, d :: ds, 0, _ => by simp
  | x :: L, d :: ds, k + 1, h => by
    have ih := flatO_drop (L := L) (ds := ds) k (by simpa using h)
    simp only [List.drop_succ_cons, flatO, ih]
    rw [show (k + 1) * 10 = (opC x d).length + k * 10 by simp [opC]; omega, List.drop_length_add_append]
theorem Pair.drop {α β : Type} {R : α → β → Prop} : ∀ {xs : List α} {ys : List β} (k : Nat), Pair R xs ys → Pair R (xs.drop k) (ys.drop k)
  | [], [], k, _ => by simp [Pair]
  | [], _ :: _, _, h => h.elim
  | _ :: _, [], _, h => h.elim
  | x :: xs, y :: ys, 0, h => h
  | x :: xs, y :: ys, k + 1, h => Pair.drop k h.2
theorem ORow.cells {T : TypeId} {B base : Nat} {w : World} {A : Option Addr} {n c : Nat} {L : List OpD} (h : ORow T B base w (.slice A n c) L) (hL : L ≠ []) :
    ∃ g ds, A = some ⟨g, 0, none⟩ ∧ g < w.heap.size ∧ Pair (fun x d => Dat B w d x.data) L ds ∧ ∀ (j : Nat) (u : Value), (flatO L ds)[j]? = some u → w.cell? ⟨g, j, none⟩ = some u := by
  obtain ⟨ds, hp, h1, ⟨e, h0⟩ | ⟨g, cap, cur, e, hb, hg, hc, hm, hcs, htk⟩⟩ := h
  · exact absurd (List.eq_nil_of_length_eq_zero h0) hL
  · injection e with e1 _ _
    refine ⟨g, ds, e1, lt_ob hg, hp, fun j u hj => ?_⟩
    rw [← htk, List.getElem?_take] at hj
    split at hj
    · rw [Array.getElem?_toList] at hj
      simp only [World.cell?, hg]; simpa using hj
    · cases hj
theorem ORow.addr {T : TypeId} {B base : Nat} {w : World} {A : Option Addr} {n c : Nat} {L : List OpD} (h : ORow T B base w (.slice A n c) L) : n = L.length ∧ n ≤ c ∧ (A = none ∧ c = 0 ∨ ∃ g, A = some ⟨g, 0, none⟩) := by
  obtain ⟨ds, hp, h1, ⟨e, h0⟩ | ⟨g, cap, cur, e, hb, hg, hc, hm, hcs, htk⟩⟩ := h
  · injection e with e1 e2 e3
    exact ⟨by omega, by omega, .inl ⟨e1, e3⟩⟩
  · injection e with e1 e2 e3
    exact ⟨by omega, by omega, .inr ⟨g, e1⟩⟩
section
variable {P : Program}
/-- The first k of a row. -/
theorem ORow.headCut {T : TypeId} {B base : Nat} {w : World} {A : Option Addr} {n c k : Nat} {L : List OpD} (h : ORow T B base w (.slice A n c) L) (hk : k ≤ n) (t e : TypeId) (hu : P.underlying t = some (.slice e)) (hsz : ∀ w, (sizeOf e).run P w = .ok 10 w) :
    SubO B w (.slice A k c) (L.take k) ∧ ∀ (d : Option Tmp) (ty : TypeId) (pos : String) (af : Array Edge) (gd : Option (Nat × Bool)) (ρ : Operand → Value) (x hi : Operand) (W : World), ρ x = .slice A n c → ρ hi = .int .i64 (k : Int) → (execOp ρ ⟨d, .slice t x none (some hi) none, ty, pos, af, gd⟩).run P W = .ok (.value (.slice A k c)) W := by
  obtain ⟨hn, hnc, hA⟩ := h.addr
  refine ⟨⟨A, c, by rw [List.length_take, Nat.min_eq_left (by omega)], fun hL => ?_⟩, ?_⟩
  · have hL' : L ≠ [] := by rintro rfl; simp at hL
    obtain ⟨g, ds, rfl, hg, hp, hc⟩ := h.cells hL'
    refine ⟨g, 0, ds.take k, rfl, hg, hp.take k, fun j u hj => ?_⟩
    rw [flatO_take k hp.length, List.getElem?_take] at hj
    split at hj
    · rw [Nat.zero_add]; exact hc j u hj
    · cases hj
  · intro d ty pos af gd ρ x hi W hx hhi
    have h1 : (0 : Int) ≤ (k : Int) ∧ (k : Int) ≤ (c : Int) := by omega
    rcases hA with ⟨rfl, rfl⟩ | ⟨g, rfl⟩
    · have : k = 0 := by omega
      subst this
      simp [execOp, hx, hhi, Instr.sliceAt, Instr.slice, Instr.sliceBounds, Instr.sliceBound, asIntOf, run_underlying hu, hsz]
    · exact r_sliceHi hx hhi hu hsz (by omega)
/-- All but the first k of a row. -/
theorem ORow.tailCut {T : TypeId} {B base : Nat} {w : World} {A : Option Addr} {n c k : Nat} {L : List OpD} (h : ORow T B base w (.slice A n c) L) (hk : k ≤ n) (t e : TypeId) (hu : P.underlying t = some (.slice e)) (hsz : ∀ w, (sizeOf e).run P w = .ok 10 w) :
    ∃ A', SubO B w (.slice A' (n - k) (c - k)) (L.drop k) ∧ ∀ (d : Option Tmp) (ty : TypeId) (pos : String) (af : Array Edge) (gd : Option (Nat × Bool)) (ρ : Operand → Value) (x lo : Operand) (W : World), ρ x = .slice A n c → ρ lo = .int .i64 (k : Int) → (execOp ρ ⟨d, .slice t x (some lo) none none, ty, pos, af, gd⟩).run P W = .ok (.value (.slice A' (n - k) (c - k))) W := by
  obtain ⟨hn, hnc, hA⟩ := h.addr
  have h1 : (0 : Int) ≤ (k : Int) ∧ (k : Int) ≤ (n : Int) := by omega
  by_cases hkc : k < c
  · rcases hA with ⟨rfl, rfl⟩ | ⟨g, rfl⟩
    · omega
    · refine ⟨some ⟨g, 0 + k * 10, none⟩, ⟨_, _, by rw [List.length_drop, hn], fun hL => ?_⟩, fun d ty pos af gd ρ x lo W hx hlo => r_sliceLo hx hlo hu hsz hk hkc⟩
      have hL' : L ≠ [] := by rintro rfl; simp at hL
      obtain ⟨g', ds, e, hg, hp, hc⟩ := h.cells hL'
      injection e with e; injection e with e _ _
      subst e
      refine ⟨g, 0 + k * 10, ds.drop k, rfl, hg, hp.drop k, fun j u hj => ?_⟩
      rw [flatO_drop k hp.length, List.getElem?_drop] at hj
      rw [Nat.zero_add]; exact hc _ u hj
  · have hck : c = k := by omega
    refine ⟨A, ⟨_, _, by rw [List.length_drop, hn], fun hL => ?_⟩, fun d ty pos af gd ρ x lo W hx hlo => ?_⟩
    · exact absurd (List.drop_eq_nil_of_le (by omega)) hL
    · simp [execOp, hx, hlo, Instr.sliceAt, Instr.slice, Instr.sliceBounds, Instr.sliceBound, asIntOf, run_underlying hu, hsz, h1, hck, hk]
end
theorem OpRow.sub {B : Nat} {w : World} {A : Option Addr} {c : Nat} {os : List OpD} (h : OpRow B w A os) : SubO B w (.slice A os.length c) os := by
  refine ⟨A, c, rfl, fun hL => ?_⟩
  obtain ⟨o0, os', rfl⟩ := List.exists_cons_of_ne_nil hL
  obtain ⟨g, f, oA, on, oc, hA, hg, hc, hD, _⟩ := h 0 o0 rfl
  have key : ∀ (l : List OpD) (k : Nat), (∀ i o, l[i]? = some o → (o0 :: os')[k + i]? = some o) → ∃ ds, Pair (fun x d => Dat B w d x.data) l ds ∧ ∀ (j : Nat) (u : Value), (flatO l ds)[j]? = some u → w.cell? ⟨g, f + k * 10 + j, none⟩ = some u := by
    intro l
    induction l with
    | nil => intro k _; exact ⟨[], trivial, fun j u hj => by simp [flatO] at hj⟩
    | cons x l ih =>
      intro k hk
      obtain ⟨ds, hp, hds⟩ := ih (k + 1) (fun i o ho => by rw [show k + 1 + i = k + (i + 1) by omega]; exact hk (i + 1) o ho)
      obtain ⟨g2, f2, oA2, on2, oc2, hA2, _, hc2, hD2, _⟩ := h k x (hk 0 x rfl)
      rw [hA] at hA2; injection hA2 with hA2; injection hA2 with e1 e2 _; subst e1; subst e2
      refine ⟨.slice oA2 on2 oc2 :: ds, ⟨hD2, hp⟩, fun j u hj => ?_⟩
      simp only [flatO] at hj
      by_cases hj10 : j < 10
      · rw [List.getElem?_append_left (by simpa [opC] using hj10)] at hj
        exact hc2 j u hj
      · rw [List.getElem?_append_right (by simp [opC]; omega)] at hj
        have := hds _ u hj
        rw [show f + (k + 1) * 10 + (j - (opC x (.slice oA2 on2 oc2)).length) = f + k * 10 + j by simp [opC]; omega] at this
        exact this
  obtain ⟨ds, hp, hds⟩ := key (o0 :: os') 0 (fun i o ho => by rw [Nat.zero_add]; exact ho)
  exact ⟨g, f, ds, hA, hg, hp, fun j u hj => by have := hds j u hj; simpa using this⟩
theorem SubO.one {B : Nat} {w : World} {b : Nat} {x : OpD} {d : Value} {T : TypeId} (hb : w.heap[b]? = some (.cells (opC x d).toArray T (0, 0))) (hD : Dat B w d x.data) : SubO B w (.slice (some ⟨b, 0, none⟩) 1 1) [x] := by
  refine ⟨_, _, rfl, fun _ => ⟨b, 0, [d], rfl, lt_ob hb, ⟨hD, trivial⟩, fun j u hj => ?_⟩⟩
  simp only [flatO, List.append_nil] at hj
  have : (opC x d).toArray[j]? = some u := by simpa using hj
  rw [Nat.zero_add]
  simp only [World.cell?, hb]; simpa using this
theorem opC_one {x : OpD} {d u : Value} (hd : d.oneCell' = true) (hu : u ∈ opC x d) : u.oneCell' = true := by
  simp only [opC, List.mem_cons, List.not_mem_nil, or_false] at hu
  rcases hu with rfl | rfl | rfl | rfl | rfl | rfl | rfl | rfl | rfl | rfl <;> first | rfl | exact hd
theorem flatO_one {B : Nat} {w : World} : ∀ {L : List OpD} {ds : List Value}, Pair (fun x d => Dat B w d x.data) L ds → ∀ u ∈ flatO L ds, u.oneCell' = true
  | [], [], _, u, hu => by simp [flatO] at hu
  | [], _ :: _, h, _, _ => h.elim
  | _ :: _, [], h, _, _ => h.elim
  | x :: L, d :: ds, h, u, hu => by
    simp only [flatO] at hu
    rcases List.mem_append.1 hu with hu | hu
    · obtain ⟨A, n, c, rfl⟩ := h.1.form
      exact opC_one rfl hu
    · exact flatO_one h.2 u hu
theorem flatO_app : ∀ {L M : List OpD} {ds es : List Value}, L.length = ds.length → flatO (L ++ M) (ds ++ es) = flatO L ds ++ flatO M es
  | [], M, [], es, _ => by simp [flatO]
  | x :: L, M, d :: ds, es, h => by simp [flatO, flatO_app (L := L) (ds := ds) (by simpa using h)]
theorem Pair.app {α β : Type} {R : α → β → Prop} : ∀ {xs xs' : List α} {ys ys' : List β}, Pair R xs ys → Pair R xs' ys' → Pair R (xs ++ xs') (ys ++ ys')
  | [], _, [], _, _, h => h
  | [], _, _ :: _, _, h, _ => h.elim
  | _ :: _, _, [], _, h, _ => h.elim
  | x :: xs, _, y :: ys, _, h, k => ⟨h.1, Pair.app h.2 k⟩
section
variable {T : TypeId} {ops : Array Oper} {Q : Exit → Act → World → Prop} {a : Act} {w : World} {J : Act → World → Prop} {d : Option Tmp} {ty : TypeId} {pos : String} {af : Array Edge} {gd : Option (Nat × Bool)} {B base : Nat} {L M : List OpD} {t : TypeId} {i : TypeInfo} {z : Value}
/-- An empty literal. -/
theorem litO (hw : Region.wanted (⟨d, .buildSlice t 0 #[], ty, pos, af, gd⟩ : Oper) (yielded ops a.tmps) = true) (ht : Tryz.prog.underlying t = some (.slice T)) (hsz : ∀ w, (sizeOf T).run Tryz.prog w = .ok 10 w) (hbase : base ≤ w.heap.size)
    (k : ∀ b w', b = w.heap.size → w'.heap[b]? = some (.cells #[] T (0, 0)) → ORow T B base w' (.slice (some ⟨b, 0, none⟩) 0 0) [] → Up w w' → J (a.put d (.slice (some ⟨b, 0, none⟩) 0 0)) w') : St1 Tryz.prog ops Q ⟨d, .buildSlice t 0 #[], ty, pos, af, gd⟩ J a w := by
  have hrun : (execOp a.eval ⟨d, .buildSlice t 0 #[], ty, pos, af, gd⟩).run Tryz.prog w = .ok (.value (.slice (some ⟨w.heap.size, 0, none⟩) 0 0)) (w.alloc (.cells #[] T)) := by
    simp [execOp, Instr.buildSlice, run_underlying ht, hsz, Instr.fill, newRow, Array.range_zero']
  exact sv hw hrun (k _ _ rfl (heap_alloc_new w _) ⟨[], trivial, World.ownsRow_lit w #[] 0 hbase (by unfold maxLen; omega) (by simp)⟩ (up_alloc w _))
/-- Operations behind a row of one's own. -/
theorem apO {s y : Operand} {b n c : Nat} {v : Value} (hw : Region.wanted (⟨d, .call ⟨.builtin .append, #[s, y], #[t, t]⟩, ty, pos, af, gd⟩ : Oper) (yielded ops a.tmps) = true) (hs : a.eval s = .slice (some ⟨b, 0, none⟩) n c) (hy : a.eval y = v)
    (h : ORow T B base w (.slice (some ⟨b, 0, none⟩) n c) L) (hM : SubO B w v M) (ht : Tryz.prog.underlying t = some (.slice T)) (hi : Tryz.prog.info? T = some i) (hz : i.zero = some z) (hsize : i.size = 10) (hby : i.bytes = 104) (hzs : z.cells.size = 10) (hT : T ≠ 5) (hB : B ≤ base) (hbase : base ≤ w.heap.size) (hlen : L.length + M.length ≤ 1000000)
    (k : ∀ b' n' c' w', n' = (L ++ M).length → ORow T B base w' (.slice (some ⟨b', 0, none⟩) n' c') (L ++ M) → base ≤ b' → Chg w w' b → J (a.put d (.slice (some ⟨b', 0, none⟩) n' c')) w') : St1 Tryz.prog ops Q ⟨d, .call ⟨.builtin .append, #[s, y], #[t, t]⟩, ty, pos, af, gd⟩ J a w := by
  have hbg := h.ge hB
  obtain ⟨hn, hnc, _, cur, hg, _⟩ := h.blk
  have hk : B ≤ b ∧ NotU8 w b := ⟨hbg, NotU8.of hg hT⟩
  obtain ⟨ds, hp, ho⟩ := h
  rw [← hn] at ho
  obtain ⟨A, c2, rfl, hM⟩ := hM
  by_cases hM0 : M = []
  · subst hM0
    have hrun : (Builtin.append_ #[t, t] ty #[.slice (some ⟨b, 0, none⟩) n c, .slice A 0 c2]).run Tryz.prog w = .ok (.slice (some ⟨b, 0, none⟩) n c) w := by
      cases A <;> simp [Builtin.append_, run_underlying ht, sizeOf, typeInfo, hi, Builtin.lenOf, Builtin.firstCells, hnc, storeCells, loadCells, loadCellsFrom]
    refine sv hw ?_ (k b n c w (by simpa using hn) ⟨ds, by simpa using hp, by rw [List.append_nil, ← hn]; exact ho⟩ ?_ ⟨rfl, rfl, rfl, Nat.le_refl _, fun _ _ _ => rfl⟩)
    · simp only [List.length_nil] at hy
      simp [execOp, resolve, invoke, builtin, hs, hy, hrun]
    · exact (ho.lt b rfl).1
  · obtain ⟨g, o, es, rfl, hgl, hp2, hc⟩ := hM hM0
    obtain ⟨v', w', h1, h2, h3, h4⟩ := run_append_own (P := Tryz.prog) w base t ty T i z 10 104 ht hi hz hsize hby hzs (by decide) _ n (flatO L ds) ho ⟨g, o, none⟩ M.length c2 (flatO M es) (flatO_length hp2.length)
      (fun j u hj => by rw [add_at]; exact hc j u hj) (flatO_one hp2) (by unfold maxLen; omega) (by omega) hbase
    have hnn : v' ≠ .slice none 0 0 := fun e => by have := (h4.1 e).1; cases this
    have hR : ORow T B base w' v' (L ++ M) := ⟨ds ++ es, Pair.app (hp.mono fun x d hd => hd.chg h3 hk) (hp2.mono fun x d hd => hd.chg h3 hk), by rw [flatO_app hp.length, List.length_append, ← hn]; exact h2⟩
    obtain ⟨A', c', rfl⟩ := hR.form
    rcases hR.addr.2.2 with ⟨rfl, rfl⟩ | ⟨b', rfl⟩
    · exfalso
      obtain ⟨_, _, _, ⟨e, h0⟩ | ⟨_, _, _, e, _⟩⟩ := hR
      · exact hnn e
      · cases e
    · refine sv hw ?_ (k b' _ c' w' rfl hR (hR.own b' rfl).1 h3)
      simp [execOp, resolve, invoke, builtin, hs, hy, h1]
end
/-! ### the document's place for an operation -/
theorem insO_at {x : OpD} : ∀ {L : List OpD} {k : Nat}, (∀ j y, j < k → L[j]? = some y → ltS y.at_ x.at_ = true) → (k = L.length ∨ ∃ y, L[k]? = some y ∧ ltS y.at_ x.at_ = false ∧ y.at_ ≠ x.at_) → insO L x = L.take k ++ [x] ++ L.drop k
  | [], k, _, _ => by simp [insO]
  | y :: L, 0, _, h => by
    rcases h with h | ⟨z, hz, h1, h2⟩
    · simp at h
    · simp at hz; subst hz
      simp [insO, h1, h2]
  | y :: L, k + 1, hlt, h => by
    have hy := hlt 0 y (by omega) rfl
    have ih := insO_at (x := x) (L := L) (k := k) (fun j z hj hz => hlt (j + 1) z (by omega) (by simpa using hz)) (by
      rcases h with h | ⟨z, hz, h1, h2⟩
      · exact .inl (by simpa using h)
      · exact .inr ⟨z, by simpa using hz, h1, h2⟩)
    rw [insO, if_pos hy, ih]; simp
theorem insO_skip {x : OpD} : ∀ {L : List OpD} {k : Nat} {y : OpD}, (∀ j y, j < k → L[j]? = some y → ltS y.at_ x.at_ = true) → L[k]? = some y → y.at_ = x.at_ → insO L x = L
  | z :: L, 0, y, _, hy, e => by
    simp at hy; subst hy
    simp [insO, e, ltS_irrefl]
  | z :: L, k + 1, y, hlt, hy, e => by
    have hz := hlt 0 z (by omega) rfl
    have ih := insO_skip (x := x) (L := L) (k := k) (y := y) (fun j z hj hz => hlt (j + 1) z (by omega) (by simpa using hz)) (by simpa using hy) e
    rw [insO, if_pos hz, ih]
theorem lt_next {L : List OpD} {k : Nat} {x y : OpD} (h : Hid (∀ (j : Nat) (y : OpD), j < k → L[j]? = some y → ltS y.at_ x.at_ = true)) (hy : L[k]? = some y) (hl : ltS y.at_ x.at_ = true) : Hid (∀ (j : Nat) (y : OpD), j < k + 1 → L[j]? = some y → ltS y.at_ x.at_ = true) := fun j z hj hz => by
  rcases Nat.lt_or_ge j k with h1 | h1
  · exact h.out j z h1 hz
  · obtain rfl : j = k := by omega
    rw [hy] at hz; injection hz with hz; subst hz; exact hl
end Go.Proofs.YtefhfoioeoijlaaGreat

namespace Go.Proofs.YtefhfoioeoijlaaGreat
open Go Go.RowKit Go.Sort
theorem sortO_iff {l : List OpD} {o : OpD} : o ∈ sortO l ↔ ∃ i : Nat, l[i]? = some o ∧ ∀ (j : Nat) (z : OpD), j < i → l[j]? = some z → z.at_ ≠ o.at_ := by
  obtain ⟨J, h1, h2⟩ := heads_fold (atO l) l.length
  rw [range_at] at h2
  have hat : ∀ i, i < l.length → l[i]? = some (atO l i) := fun i hi => by simp [atO, List.getD_eq_getElem?_getD, List.getElem?_eq_getElem hi]
  rw [← h2, List.mem_map]
  constructor
  · rintro ⟨i, hi, rfl⟩
    obtain ⟨h3, h4⟩ := (h1.2 i).1 hi
    refine ⟨i, hat i h3, fun j z hj hz => ?_⟩
    rw [hat j (by omega)] at hz; injection hz with hz; rw [← hz]
    exact h4 j hj
  · rintro ⟨i, hi, h4⟩
    have hlt := (List.getElem?_eq_some_iff.1 hi).1
    have e : atO l i = o := by rw [hat i hlt] at hi; injection hi
    refine ⟨i, (h1.2 i).2 ⟨hlt, fun j hj => ?_⟩, e⟩
    rw [e]; exact h4 j _ hj (hat j (by omega))
theorem srtO_one {L M : List OpD} (hL : SrtO L) (hM : SrtO M) (h : ∀ o, o ∈ L ↔ o ∈ M) : L = M := by
  have nd : ∀ {K : List OpD}, SrtO K → K.Nodup := fun hK => hK.imp fun {a b} hab e => by subst e; rw [ltS_irrefl] at hab; cases hab
  exact sorted_one (lt := fun x y : OpD => ltS x.at_ y.at_ = true) (fun x y h k => by rw [ltS_asymm h] at k; cases k) hL hM ((List.perm_ext_iff_of_nodup (nd hL) (nd hM)).2 h)
theorem swap_get {L : List OpD} {a b : Nat} {x y : OpD} (hx : L[a]? = some x) (hy : L[b]? = some y) (i : Nat) : ((L.set a y).set b x)[i]? = L[if i = b then a else if i = a then b else i]? := by
  have ha := (List.getElem?_eq_some_iff.1 hx).1
  have hb := (List.getElem?_eq_some_iff.1 hy).1
  by_cases h1 : i = b
  · subst h1
    rw [if_pos rfl, List.getElem?_set_self (by simpa using hb), hx]
  · rw [if_neg h1, List.getElem?_set_ne (fun e => h1 e.symm)]
    by_cases h2 : i = a
    · subst h2
      rw [if_pos rfl, List.getElem?_set_self ha, hy]
    · rw [if_neg h2, List.getElem?_set_ne (fun e => h2 e.symm)]
theorem sortO_swap {L : List OpD} {a b : Nat} {x y : OpD} (hx : L[a]? = some x) (hy : L[b]? = some y) (ha : ∀ (k : Nat) (z : OpD), L[k]? = some z → k ≠ a → z.at_ ≠ x.at_) (hb : ∀ (k : Nat) (z : OpD), L[k]? = some z → k ≠ b → z.at_ ≠ y.at_) : sortO ((L.set a y).set b x) = sortO L := by
  have hab : x.at_ = y.at_ → a = b := fun e => by
    by_cases h : b = a
    · exact h.symm
    · exact absurd e.symm (ha b y hy h)
  refine srtO_one (sortO_srt _) (sortO_srt _) fun o => ?_
  rw [sortO_iff, sortO_iff]
  constructor
  · rintro ⟨i, hi, h4⟩
    rw [swap_get hx hy] at hi
    refine ⟨_, hi, fun j z hj hz e => ?_⟩
    by_cases h1 : i = b
    · subst h1
      rw [if_pos rfl, hx] at hi; injection hi with hi; subst hi
      rw [if_pos rfl] at hj
      exact ha j z hz (by omega) e
    · rw [if_neg h1] at hi hj
      by_cases h2 : i = a
      · subst h2
        rw [if_pos rfl, hy] at hi; injection hi with hi; subst hi
        rw [if_pos rfl] at hj
        exact hb j z hz (by omega) e
      · rw [if_neg h2] at hi hj
        by_cases h3 : j = a
        · subst h3
          rw [hx] at hz; injection hz with hz; subst hz
          exact ha i o hi h2 e.symm
        · by_cases h5 : j = b
          · subst h5
            rw [hy] at hz; injection hz with hz; subst hz
            exact hb i o hi h1 e.symm
          · exact h4 j z hj (by rw [swap_get hx hy, if_neg h5, if_neg h3]; exact hz) e
  · rintro ⟨p, hp, h4⟩
    by_cases h1 : p = a
    · subst h1
      rw [hx] at hp; injection hp with hp; subst hp
      refine ⟨b, by rw [swap_get hx hy, if_pos rfl]; exact hx, fun j z hj hz e => ?_⟩
      rw [swap_get hx hy, if_neg (by omega)] at hz
      by_cases h2 : j = p
      · rw [if_pos h2, hy] at hz; injection hz with hz; subst hz
        have := hab e.symm; omega
      · rw [if_neg h2] at hz; exact ha j z hz h2 e
    · by_cases h2 : p = b
      · subst h2
        rw [hy] at hp; injection hp with hp; subst hp
        refine ⟨a, by rw [swap_get hx hy, if_neg (fun e => h1 e.symm), if_pos rfl]; exact hy, fun j z hj hz e => ?_⟩
        rw [swap_get hx hy] at hz
        by_cases h3 : j = p
        · rw [if_pos h3, hx] at hz; injection hz with hz; subst hz
          have := hab e; omega
        · rw [if_neg h3, if_neg (by omega)] at hz; exact hb j z hz h3 e
      · refine ⟨p, by rw [swap_get hx hy, if_neg h2, if_neg h1]; exact hp, fun j z hj hz e => ?_⟩
        rw [swap_get hx hy] at hz
        by_cases h3 : j = b
        · rw [if_pos h3, hx] at hz; injection hz with hz; subst hz
          exact ha p o hp h1 e.symm
        · rw [if_neg h3] at hz
          by_cases h5 : j = a
          · rw [if_pos h5, hy] at hz; injection hz with hz; subst hz
            exact hb p o hp h2 e.symm
          · rw [if_neg h5] at hz; exact h4 j z hj hz e
/-- So far nobody has a twin: told by the places. -/
def NoTwin (f : Nat → OpD) (I : List Nat) (a b k : Nat) (tw : Bool) : Prop := tw = false → ∀ (j z x y : Nat), j < k → I[j]? = some z → I[a]? = some x → I[b]? = some y → (j ≠ a → (f z).at_ ≠ (f x).at_) ∧ (j ≠ b → (f z).at_ ≠ (f y).at_)
theorem NoTwin.yes {f : Nat → OpD} {I : List Nat} {a b k : Nat} : NoTwin f I a b k true := fun h => by cases h
theorem NoTwin.next {f : Nat → OpD} {I : List Nat} {a b k z x y : Nat} (h : NoTwin f I a b k false) (hz : I[k]? = some z) (hx : k ≠ a → I[a]? = some x ∧ (f z).at_ ≠ (f x).at_) (hy : k ≠ b → I[b]? = some y ∧ (f z).at_ ≠ (f y).at_) : NoTwin f I a b (k + 1) false := fun _ j z' x' y' hj hz' hx' hy' => by
  rcases Nat.lt_or_ge j k with h1 | h1
  · exact h rfl j z' x' y' h1 hz' hx' hy'
  · obtain rfl : j = k := by omega
    rw [hz] at hz'; injection hz' with hz'; subst hz'
    refine ⟨fun hne => ?_, fun hne => ?_⟩
    · obtain ⟨e1, e2⟩ := hx hne
      rw [e1] at hx'; injection hx' with hx'; subst hx'; exact e2
    · obtain ⟨e1, e2⟩ := hy hne
      rw [e1] at hy'; injection hy' with hy'; subst hy'; exact e2
theorem NoTwin.swap {f : Nat → OpD} {I : List Nat} {a b n x y : Nat} (h : NoTwin f I a b n false) (hn : I.length ≤ n) (hx : I[a]? = some x) (hy : I[b]? = some y) : sortO (((I.set a y).set b x).map f) = sortO (I.map f) := by
  rw [← map_set', ← map_set']
  refine sortO_swap (map_get' hx) (map_get' hy) (fun k z hz hne => ?_) (fun k z hz hne => ?_)
  · rw [List.getElem?_map, Option.map_eq_some_iff] at hz
    obtain ⟨z', hz, rfl⟩ := hz
    have := (List.getElem?_eq_some_iff.1 hz).1
    exact (h rfl k z' x y (by omega) hz hx hy).1 hne
  · rw [List.getElem?_map, Option.map_eq_some_iff] at hz
    obtain ⟨z', hz, rfl⟩ := hz
    have := (List.getElem?_eq_some_iff.1 hz).1
    exact (h rfl k z' x y (by omega) hz hx hy).2 hne
theorem ORow.ops {T : TypeId} {B base : Nat} {w : World} {A : Option Addr} {n c : Nat} {L : List OpD} (h : ORow T B base w (.slice A n c) L) (hn : ∀ o ∈ L, o.name.size ≤ 9223372036854775807) : OpRow B w A L := by
  intro i o ho
  obtain ⟨g, cap, cur, dA, dn, dc, e, _, hg, he, hD⟩ := h.get ho
  injection e with e1 _ _
  refine ⟨g, 0, dA, dn, dc, e1, lt_ob hg, fun j v hj => ?_, hD, hn o (List.mem_of_getElem? ho)⟩
  have := el_get he j hj
  rw [Array.getElem?_toList] at this
  simp only [World.cell?, hg, Nat.zero_add]; simpa using this
/-- Numbers that came in. -/
def IntRow (w : World) (A : Option Addr) (ts : List Int) : Prop := ∀ i, i < ts.length → ∃ g f, A = some ⟨g, f, none⟩ ∧ g < w.heap.size ∧ w.cell? ⟨g, f + i, none⟩ = some (.int .i64 (ts.getD i 0))
theorem IntRow.up {w w' : World} {A : Option Addr} {ts : List Int} (h : IntRow w A ts) (u : Up w w') : IntRow w' A ts := fun i hi => by
  obtain ⟨g, f, hA, hg, hc⟩ := h i hi
  exact ⟨g, f, hA, Nat.lt_of_lt_of_le hg u.size, (u.cell (p := ⟨g, f + i, none⟩) hg).trans hc⟩
section
open Go.ChangeShapes Go.WideShapes Go.ChangeAt Go.Deep
variable {H : Type} {enc : TypeId × Value → H}
theorem open_introw {W : World} {sp : Nat → Bool} {held : Bool} {n : Nat} {v : Value} {y : DataW H × List MemPlace} (h : DataW.trod enc Tryz.prog W 0 sp held n 131 [v] = some y) :
    ∃ (A : Option Addr) (ts : List Int) (c : Nat), [v] = [.slice A ts.length c] ∧ ts.length ≤ 9223372036854775807 ∧ IntRow W A ts := by
  rcases open_ints Tryz.underlying131 Tryz.underlying3 (by kernel_rfl) h with ⟨hc, _⟩ | ⟨a, len, cap, zs, hc, _, hl, hm, hz, _, hcell, hwf⟩
  · exact ⟨none, [], 0, hc, by simp, fun i hi => by simp at hi⟩
  · have hlz : len ≤ zs.length := by rw [hz]; split <;> omega
    have htl : (zs.take len).length = len := by rw [List.length_take]; omega
    refine ⟨some a, zs.take len, cap, by rw [htl]; exact hc, by rw [htl]; unfold maxLen at hm; omega, fun i hi => ?_⟩
    rw [htl] at hi
    have h0 := hcell 0 (by omega)
    rw [show a.add 0 = a from rfl] at h0
    obtain ⟨ha, hb⟩ := spot_none h0
    refine ⟨a.block, a.off, by rw [← ha], hb, ?_⟩
    have := hcell i (by omega)
    rw [ha, add_at] at this
    rw [this]
    congr 2
    simp [List.getD_eq_getElem?_getD, List.getElem?_take, hi]
end
section
variable {P : Program} {d : Option Tmp} {ty : TypeId} {pos : String} {af : Array Edge} {gd : Option (Nat × Bool)} {ρ : Operand → Value} {w : World}
theorem r_rem {t yt : TypeId} {x y : Operand} {m n c : Int} (hx : ρ x = .int .i64 m) (hy : ρ y = .int .i64 n) (hn : n ≠ 0) (hc : Int.tmod m n = c) : (execOp ρ ⟨d, .binOp .rem t x y yt, ty, pos, af, gd⟩).run P w = .ok (.value (.int .i64 c)) w := by
  subst hc
  simp [execOp, hx, hy, eqGuard, binOp, Op.intArith, Op.intDiv, hn]
end
theorem tmod_in (m : Int) {n : Nat} (hn : 0 < n) : ∃ q : Int, Int.tmod m n = q ∧ -(n : Int) < q ∧ q < n := by
  refine ⟨_, rfl, ?_, ?_⟩
  · have := Int.lt_tmod_of_pos m (by omega : (0 : Int) < n); omega
  · exact Int.tmod_lt_of_pos m (by omega)
theorem tmod_nat {q : Int} {n : Nat} (hn : 0 < n) (h1 : -(n : Int) < q) : ∃ b : Nat, Int.tmod (q + n) n = (b : Int) ∧ b < n := by
  have h2 : 0 ≤ Int.tmod (q + n) n := Int.tmod_nonneg _ (by omega)
  have h3 : Int.tmod (q + n) n < n := Int.tmod_lt_of_pos _ (by omega)
  exact ⟨(Int.tmod (q + n) n).toNat, by omega, by omega⟩
end Go.Proofs.YtefhfoioeoijlaaGreat

namespace Go.Proofs.YtefhfoioeoijlaaGreat
abbrev playA (ops : List OpD) : List Item := ops.foldl playI []
def hasL (ops : List OpD) (m : Stamp) : Bool := ops.any fun x => decide (x.at_ = m)
def insL (ops : List OpD) (o : OpD) : List OpD := if rightB o && !hasL ops o.at_ then insO ops o else ops
def remL (ops : List OpD) (m : Stamp) : List OpD := ops.filter fun x => !decide (x.at_ = m)
theorem hasL_iff {ops : List OpD} {m : Stamp} : hasL ops m = true ↔ ∃ x ∈ ops, x.at_ = m := by simp [hasL]
theorem hasL_no {ops : List OpD} {m : Stamp} : hasL ops m = false ↔ ∀ x ∈ ops, x.at_ ≠ m := by simp [hasL]
theorem recAll_take (p : List OpD) (L : List Item) (k : Nat) : (recAll L p).take k = recAll L (p.take k) := by
  induction p generalizing L k with
  | nil => simp [recAll]
  | cons o p ih => cases k with
    | zero => simp [recAll]
    | succ k => simp [recAll, ih]
theorem recAll_get {p : List OpD} {L : List Item} {k : Nat} : ((recAll L p)[k]?).map (·.o) = p[k]? := by
  rw [← List.getElem?_map, recAll_ops]
theorem recAll_drop (p : List OpD) (L : List Item) (k : Nat) : (recAll L p).drop k = recAll ((p.take k).foldl playI L) (p.drop k) := by
  induction p generalizing L k with
  | nil => simp [recAll]
  | cons o p ih => cases k with
    | zero => simp
    | succ k => simp [recAll, ih]
theorem srtO_lt {ops : List OpD} (h : SrtO ops) {i j : Nat} {x y : OpD} (hij : i < j) (hx : ops[i]? = some x) (hy : ops[j]? = some y) : ltS x.at_ y.at_ = true := by
  obtain ⟨hi, rfl⟩ := List.getElem?_eq_some_iff.1 hx
  obtain ⟨hj, rfl⟩ := List.getElem?_eq_some_iff.1 hy
  exact List.pairwise_iff_getElem.1 h i j hi hj hij
theorem rec_at {ops : List OpD} {L : List Item} {i : Nat} {s : StepD} (h : (recAll L ops)[i]? = some s) : ops[i]? = some s.o := by
  have := recAll_get (p := ops) (L := L) (k := i)
  rw [h] at this; exact this.symm
theorem seek_lt {ops : List OpD} {m : Stamp} {i : Nat} (hs : SrtO ops) (h : Seek (recAll [] ops) m i i) {j : Nat} {x : OpD} (hj : j < i) (hx : ops[j]? = some x) : ltS x.at_ m = true := by
  obtain ⟨_, _, h1 | ⟨s, h1, h2⟩, _⟩ := h
  · omega
  · have h3 := rec_at h1
    by_cases e : j = i - 1
    · subst e; rw [hx] at h3; injection h3 with h3; rw [h3]; exact h2
    · exact ltS_trans (srtO_lt hs (by omega) hx h3) h2
theorem seek_ge {ops : List OpD} {m : Stamp} {i : Nat} (hs : SrtO ops) (h : Seek (recAll [] ops) m i i) {j : Nat} {x : OpD} (hj : i < j) (hx : ops[j]? = some x) : ltS m x.at_ = true := by
  obtain ⟨_, _, _, h1 | ⟨s, h1, h2⟩⟩ := h
  · have := (List.getElem?_eq_some_iff.1 hx).1; rw [recAll_len] at h1; omega
  · have h4 := srtO_lt hs hj (rec_at h1) hx
    by_cases e : m = s.o.at_
    · rw [e]; exact h4
    · rcases hlt : ltS m s.o.at_ with _ | _
      · exact absurd (ltS_tri h2 hlt).symm e
      · exact ltS_trans hlt h4
theorem found_no {ops : List OpD} {m : Stamp} {i : Nat} (hs : SrtO ops) (h : Found (recAll [] ops) m i false) : hasL ops m = false := by
  rw [hasL_no]
  intro x hx e
  obtain ⟨j, hj⟩ := List.mem_iff_getElem?.1 hx
  rcases Nat.lt_trichotomy j i with hl | rfl | hl
  · have := seek_lt hs h.1 hl hj; rw [e, ltS_irrefl] at this; cases this
  · have hr := recAll_get (p := ops) (L := []) (k := j)
    rw [hj] at hr
    cases hs' : (recAll [] ops)[j]? with
    | none => rw [hs'] at hr; cases hr
    | some s => rw [hs'] at hr; injection hr with hr; exact h.2.2 rfl s hs' (by rw [show s.o = x from hr]; exact e)
  · have := seek_ge hs h.1 hl hj; rw [e, ltS_irrefl] at this; cases this
theorem found_le {ops : List OpD} {m : Stamp} {i : Nat} {f : Bool} (h : Found (recAll [] ops) m i f) : i ≤ ops.length := by have := h.1.2.1; rwa [recAll_len] at this
theorem found_ins {ops : List OpD} {o : OpD} {i : Nat} (hs : SrtO ops) (h : Found (recAll [] ops) o.at_ i false) : insO ops o = ops.take i ++ [o] ++ ops.drop i := by
  refine insO_at (fun j y hj hy => seek_lt hs h.1 hj hy) ?_
  obtain ⟨_, _, _, h1 | ⟨s, h1, h2⟩⟩ := h.1
  · left; rwa [recAll_len] at h1
  · exact .inr ⟨s.o, rec_at h1, h2, h.2.2 rfl s h1⟩
theorem found_at {ops : List OpD} {m : Stamp} {i : Nat} (h : Found (recAll [] ops) m i true) : ∃ x, ops[i]? = some x ∧ x.at_ = m := by
  obtain ⟨s, h1, h2⟩ := h.2.1 rfl; exact ⟨s.o, rec_at h1, h2⟩
theorem found_has {ops : List OpD} {m : Stamp} {i : Nat} {f : Bool} (hs : SrtO ops) (h : Found (recAll [] ops) m i f) : f = hasL ops m := by
  cases f with
  | false => exact (found_no hs h).symm
  | true =>
    obtain ⟨x, hx, e⟩ := found_at h
    exact (hasL_iff.2 ⟨x, List.mem_of_getElem? hx, e⟩).symm
theorem found_rem {ops : List OpD} {m : Stamp} {i : Nat} (hs : SrtO ops) (h : Found (recAll [] ops) m i true) : remL ops m = ops.take i ++ ops.drop (i + 1) := by
  obtain ⟨x, hx, e⟩ := found_at h
  obtain ⟨hi, rfl⟩ := List.getElem?_eq_some_iff.1 hx
  have hcut : ops = ops.take i ++ (ops[i] :: ops.drop (i + 1)) := by rw [List.getElem_cons_drop]; exact (List.take_append_drop i ops).symm
  have h1 : (ops.take i).filter (fun x => !decide (x.at_ = m)) = ops.take i := by
    rw [List.filter_eq_self]
    intro y hy
    obtain ⟨j, hj⟩ := List.mem_iff_getElem?.1 hy
    rw [List.getElem?_take] at hj
    split at hj
    · have := seek_lt hs h.1 (by assumption) hj
      have hne : y.at_ ≠ m := fun e => by rw [e, ltS_irrefl] at this; cases this
      simpa using hne
    · cases hj
  have h2 : (ops.drop (i + 1)).filter (fun x => !decide (x.at_ = m)) = ops.drop (i + 1) := by
    rw [List.filter_eq_self]
    intro y hy
    obtain ⟨j, hj⟩ := List.mem_iff_getElem?.1 hy
    rw [List.getElem?_drop] at hj
    have := seek_ge hs h.1 (show i < i + 1 + j by omega) hj
    have hne : y.at_ ≠ m := fun e => by rw [e, ltS_irrefl] at this; cases this
    simpa using hne
  have h3 : remL ops m = (ops.take i ++ (ops[i] :: ops.drop (i + 1))).filter (fun x => !decide (x.at_ = m)) := by unfold remL; rw [← hcut]
  rw [h3, List.filter_append, h1, List.filter_cons, if_neg (by simpa using e), h2]
theorem remL_no {ops : List OpD} {m : Stamp} (h : hasL ops m = false) : remL ops m = ops := by
  unfold remL
  rw [List.filter_eq_self]
  intro x hx
  simpa using hasL_no.1 h x hx
theorem insL_srt {ops : List OpD} {o : OpD} (h : SrtO ops) : SrtO (insL ops o) := by
  unfold insL; split
  · have := foldO_srt (l := [o]) h; simpa using this
  · exact h
theorem remL_srt {ops : List OpD} {m : Stamp} (h : SrtO ops) : SrtO (remL ops m) := List.Pairwise.filter _ h
/-- Undone down to place i, then done again from another row of operations. -/
theorem play_split (ops : List OpD) (i : Nat) : playA ops = (ops.drop i).foldl playI (playA (ops.take i)) := by
  unfold playA; rw [← List.foldl_append, List.take_append_drop]
theorem undo_to (ops : List OpD) (i : Nat) (h : i ≤ ops.length) : ((recAll [] ops).drop i).reverse.foldl undoS (playA ops) = playA (ops.take i) := by
  rw [recAll_drop, play_split ops i]
  exact undo_all (L := playA (ops.take i)) (ops.drop i) (play_srt (ops.take i) (by simp [Srt]))
end Go.Proofs.YtefhfoioeoijlaaGreat

namespace Go.Proofs.YtefhfoioeoijlaaGreat
theorem insO_keep {x o : OpD} : ∀ {L : List OpD}, x ∈ L → x ∈ insO L o
  | [], h => by cases h
  | y :: L, h => by
    simp only [insO]
    split
    · rcases List.mem_cons.1 h with rfl | h
      · simp
      · exact List.mem_cons_of_mem _ (insO_keep h)
    · split
      · exact h
      · exact List.mem_cons_of_mem _ h
theorem insO_new {o : OpD} : ∀ {L : List OpD}, (∀ x ∈ L, x.at_ ≠ o.at_) → o ∈ insO L o
  | [], _ => by simp [insO]
  | y :: L, h => by
    simp only [insO]
    split
    · exact List.mem_cons_of_mem _ (insO_new fun x hx => h x (by simp [hx]))
    · rw [if_neg (h y (by simp))]; simp
theorem insL_mem {b : List OpD} {o x : OpD} : x ∈ insL b o ↔ x ∈ b ∨ (x = o ∧ rightB o = true ∧ hasL b o.at_ = false) := by
  unfold insL
  by_cases h : (rightB o && !hasL b o.at_) = true
  · rw [if_pos h]
    simp only [Bool.and_eq_true, Bool.not_eq_true'] at h
    constructor
    · intro hx
      rcases insO_mem hx with hx | rfl
      · exact .inl hx
      · exact .inr ⟨rfl, h⟩
    · rintro (hx | ⟨rfl, _⟩)
      · exact insO_keep hx
      · exact insO_new (hasL_no.1 h.2)
  · rw [if_neg h]
    simp only [Bool.and_eq_true, Bool.not_eq_true'] at h
    constructor
    · exact .inl
    · rintro (hx | ⟨_, hx⟩)
      · exact hx
      · exact absurd hx h
theorem srtO_at {L : List OpD} (h : SrtO L) {x y : OpD} (hx : x ∈ L) (hy : y ∈ L) (e : x.at_ = y.at_) : x = y := by
  obtain ⟨i, hi⟩ := List.mem_iff_getElem?.1 hx
  obtain ⟨j, hj⟩ := List.mem_iff_getElem?.1 hy
  rcases Nat.lt_trichotomy i j with hl | rfl | hl
  · have := srtO_lt h hl hi hj; rw [e, ltS_irrefl] at this; cases this
  · rw [hi] at hj; injection hj
  · have := srtO_lt h hl hj hi; rw [e, ltS_irrefl] at this; cases this
theorem insA_srt (s : List OpD) : ∀ {b : List OpD}, SrtO b → SrtO (s.foldl insL b) := by
  induction s with
  | nil => exact fun h => h
  | cons o s ih => exact fun h => ih (insL_srt h)
theorem insA_mem : ∀ {s b : List OpD} {x : OpD}, SrtO s → (∀ y ∈ b, ∀ z ∈ s, y.at_ ≠ z.at_) → (x ∈ s.foldl insL b ↔ x ∈ b ∨ (x ∈ s ∧ rightB x = true))
  | [], b, x, _, _ => by simp
  | o :: s, b, x, hs, hb => by
    obtain ⟨h1, h2⟩ := List.pairwise_cons.1 hs
    have hno : hasL b o.at_ = false := hasL_no.2 fun y hy => hb y hy o (by simp)
    rw [List.foldl_cons, insA_mem h2, insL_mem]
    · constructor
      · rintro ((h | ⟨rfl, h, _⟩) | ⟨h, h'⟩)
        · exact .inl h
        · exact .inr ⟨by simp, h⟩
        · exact .inr ⟨by simp [h], h'⟩
      · rintro (h | ⟨h, h'⟩)
        · exact .inl (.inl h)
        · rcases List.mem_cons.1 h with rfl | h
          · exact .inl (.inr ⟨rfl, h', hno⟩)
          · exact .inr ⟨h, h'⟩
    · intro y hy z hz e
      rcases insL_mem.1 hy with hy | ⟨rfl, _⟩
      · exact hb y hy z (by simp [hz]) e
      · have := h1 z hz; rw [e, ltS_irrefl] at this; cases this
/-- Round i of the mixing. -/
def addL (A more : List OpD) (i : Nat) (b : List OpD) : List OpD :=
  match more[i]? with
  | some x => if hasL A x.at_ then b else insL b x
  | none => b
def mixL (A s more : List OpD) (i : Nat) (b : List OpD) : List OpD :=
  match s[i]? with
  | some x => insL (addL A more i b) x
  | none => addL A more i b
def mixN (A s more : List OpD) : Nat → List OpD
  | 0 => []
  | i + 1 => mixL A s more i (mixN A s more i)
def goneL (A b : List OpD) (x : OpD) : List OpD := if hasL A x.at_ then b else remL b x.at_
def Mixed (A s more : List OpD) (i : Nat) (b : List OpD) : Prop :=
  SrtO b ∧ (∀ x ∈ b, x ∈ A ∨ (hasL A x.at_ = false ∧ ∃ j m, j < i ∧ more[j]? = some m ∧ m.at_ = x.at_)) ∧ ∀ x ∈ A, (∃ j, j < i ∧ s[j]? = some x) → x ∈ b
theorem mixN_is {A s more : List OpD} (hA : SrtO A) (hs : ∀ x ∈ s, rightB x = true → x ∈ A) (hr : ∀ x ∈ A, rightB x = true) : ∀ i, Mixed A s more i (mixN A s more i)
  | 0 => ⟨by simp [mixN, SrtO], by simp [mixN], fun x _ h => by obtain ⟨j, hj, _⟩ := h; omega⟩
  | i + 1 => by
    obtain ⟨h1, h2, h3⟩ := mixN_is hA hs hr i
    obtain ⟨b, hb⟩ : ∃ b, mixN A s more i = b := ⟨_, rfl⟩
    rw [hb] at h1 h2 h3
    have key : ∃ b1, addL A more i b = b1 ∧ SrtO b1 ∧ (∀ x ∈ b1, x ∈ A ∨ (hasL A x.at_ = false ∧ ∃ j m, j < i + 1 ∧ more[j]? = some m ∧ m.at_ = x.at_)) ∧ ∀ x ∈ A, (∃ j, j < i ∧ s[j]? = some x) → x ∈ b1 := by
      have wide : ∀ x ∈ b, x ∈ A ∨ (hasL A x.at_ = false ∧ ∃ j m, j < i + 1 ∧ more[j]? = some m ∧ m.at_ = x.at_) := by
        intro x hx
        rcases h2 x hx with h | ⟨h, j, m, hj, hm⟩
        · exact .inl h
        · exact .inr ⟨h, j, m, by omega, hm⟩
      refine ⟨_, rfl, ?_⟩
      unfold addL
      cases hm : more[i]? with
      | none => exact ⟨h1, wide, h3⟩
      | some m =>
        simp only
        by_cases hh : hasL A m.at_ = true
        · rw [if_pos hh]; exact ⟨h1, wide, h3⟩
        · rw [if_neg hh]
          refine ⟨insL_srt h1, fun x hx => ?_, fun x hx hj => insL_mem.2 (.inl (h3 x hx hj))⟩
          rcases insL_mem.1 hx with hx | ⟨rfl, _⟩
          · exact wide x hx
          · exact .inr ⟨by simpa using hh, i, x, by omega, hm, rfl⟩
    obtain ⟨b1, e1, k1, k2, k3⟩ := key
    have hmix : mixN A s more (i + 1) = (match s[i]? with | some x => insL b1 x | none => b1) := by
      show mixL A s more i (mixN A s more i) = _
      unfold mixL
      rw [hb, e1]
    rw [hmix]
    cases hx : s[i]? with
    | none =>
      refine ⟨k1, k2, fun x hxA ⟨j, hj, hjs⟩ => ?_⟩
      by_cases e : j = i
      · subst e; rw [hx] at hjs; cases hjs
      · exact k3 x hxA ⟨j, by omega, hjs⟩
    | some y =>
      simp only
      refine ⟨insL_srt k1, fun x hx1 => ?_, fun x hxA ⟨j, hj, hjs⟩ => ?_⟩
      · rcases insL_mem.1 hx1 with hx1 | ⟨rfl, hr1, _⟩
        · exact k2 x hx1
        · exact .inl (hs x (List.mem_of_getElem? hx) hr1)
      · by_cases e : j = i
        · subst e
          rw [hx] at hjs; injection hjs with hjs; subst hjs
          by_cases hh : hasL b1 y.at_ = true
          · obtain ⟨z, hz, ez⟩ := hasL_iff.1 hh
            rcases k2 z hz with hzA | ⟨hno, _⟩
            · have := srtO_at hA hzA hxA ez
              rw [← this]; exact insL_mem.2 (.inl hz)
            · exact absurd ez.symm (hasL_no.1 hno y hxA)
          · exact insL_mem.2 (.inr ⟨rfl, hr y hxA, by simpa using hh⟩)
        · exact insL_mem.2 (.inl (k3 x hxA ⟨j, by omega, hjs⟩))
def Going (A more : List OpD) (k : Nat) (b : List OpD) : Prop :=
  SrtO b ∧ (∀ x ∈ b, x ∈ A ∨ (hasL A x.at_ = false ∧ ∃ j m, k ≤ j ∧ more[j]? = some m ∧ m.at_ = x.at_)) ∧ ∀ x ∈ A, x ∈ b
theorem Mixed.going {A s more b : List OpD} {i : Nat} (h : Mixed A s more i b) (hs : ∀ x ∈ A, x ∈ s) (hi : s.length ≤ i) : Going A more 0 b := by
  obtain ⟨h1, h2, h3⟩ := h
  refine ⟨h1, fun x hx => ?_, fun x hx => ?_⟩
  · rcases h2 x hx with h | ⟨h, j, m, _, hm⟩
    · exact .inl h
    · exact .inr ⟨h, j, m, Nat.zero_le _, hm⟩
  · obtain ⟨j, hj⟩ := List.mem_iff_getElem?.1 (hs x hx)
    exact h3 x hx ⟨j, by have := (List.getElem?_eq_some_iff.1 hj).1; omega, hj⟩
theorem Going.step {A more b : List OpD} {k : Nat} {m : OpD} (h : Going A more k b) (hm : more[k]? = some m) : Going A more (k + 1) (goneL A b m) := by
  obtain ⟨h1, h2, h3⟩ := h
  unfold goneL
  by_cases hh : hasL A m.at_ = true
  · rw [if_pos hh]
    refine ⟨h1, fun x hx => ?_, h3⟩
    rcases h2 x hx with h | ⟨h, j, m', hj, hm', e⟩
    · exact .inl h
    · refine .inr ⟨h, j, m', ?_, hm', e⟩
      by_cases e2 : j = k
      · subst e2; rw [hm] at hm'; injection hm' with hm'; subst hm'
        rw [← e, hh] at h; cases h
      · omega
  · rw [if_neg hh]
    have hh : hasL A m.at_ = false := by simpa using hh
    refine ⟨remL_srt h1, fun x hx => ?_, fun x hx => ?_⟩
    · obtain ⟨hx, hne⟩ := List.mem_filter.1 hx
      have hne : x.at_ ≠ m.at_ := by simpa using hne
      rcases h2 x hx with h | ⟨h, j, m', hj, hm', e⟩
      · exact .inl h
      · refine .inr ⟨h, j, m', ?_, hm', e⟩
        by_cases e2 : j = k
        · subst e2; rw [hm] at hm'; injection hm' with hm'; subst hm'
          exact absurd e.symm hne
        · omega
    · exact List.mem_filter.2 ⟨h3 x hx, by have := hasL_no.1 hh x hx; simpa using this⟩
theorem Going.all {A more b : List OpD} {k : Nat} (hA : SrtO A) (h : Going A more k b) (hk : more.length ≤ k) : b = A := by
  obtain ⟨h1, h2, h3⟩ := h
  refine srtO_one h1 hA fun o => ⟨fun ho => ?_, h3 o⟩
  rcases h2 o ho with h | ⟨_, j, m, hj, hm, _⟩
  · exact h
  · have := (List.getElem?_eq_some_iff.1 hm).1; omega
end Go.Proofs.YtefhfoioeoijlaaGreat

namespace Go.Proofs.YtefhfoioeoijlaaGreat
open Go Go.RowKit Go.Sort
theorem insL_len (b : List OpD) (o : OpD) : (insL b o).length ≤ b.length + 1 := by
  unfold insL; split
  · exact insO_len o b
  · exact Nat.le_succ _
theorem insA_len : ∀ (s b : List OpD), (s.foldl insL b).length ≤ b.length + s.length
  | [], b => Nat.le_refl _
  | o :: s, b => by
    have h1 := insA_len s (insL b o)
    have h2 := insL_len b o
    rw [List.foldl_cons, List.length_cons]; omega
theorem insT_len (s : List OpD) (k : Nat) : ((s.take k).foldl insL []).length ≤ s.length := by
  have h1 := insA_len (s.take k) []
  have h2 : (s.take k).length ≤ s.length := by rw [List.length_take]; omega
  simp only [List.length_nil] at h1; omega
theorem remL_len (b : List OpD) (m : Stamp) : (remL b m).length ≤ b.length := List.length_filter_le _ _
theorem addL_len (A more : List OpD) (i : Nat) (b : List OpD) : (addL A more i b).length ≤ b.length + 1 := by
  unfold addL
  split
  · split
    · exact Nat.le_succ _
    · exact insL_len b _
  · exact Nat.le_succ _
theorem mixL_len (A s more : List OpD) (i : Nat) (b : List OpD) : (mixL A s more i b).length ≤ b.length + 2 := by
  have h1 := addL_len A more i b
  unfold mixL
  split
  · have h2 := insL_len (addL A more i b) ‹OpD›
    omega
  · omega
theorem mixN_len (A s more : List OpD) : ∀ i, (mixN A s more i).length ≤ 2 * i
  | 0 => by simp [mixN]
  | i + 1 => by
    have h1 := mixN_len A s more i
    have h2 := mixL_len A s more i (mixN A s more i)
    show (mixL A s more i (mixN A s more i)).length ≤ _
    omega
theorem mixN_next {A s more : List OpD} {i : Nat} {b1 b2 : List OpD} (h1 : (∃ m, more[i]? = some m ∧ b1 = if hasL A m.at_ then mixN A s more i else insL (mixN A s more i) m) ∨ (more.length ≤ i ∧ b1 = mixN A s more i)) (h2 : (∃ x, s[i]? = some x ∧ b2 = insL b1 x) ∨ (s.length ≤ i ∧ b2 = b1)) : b2 = mixN A s more (i + 1) := by
  have e1 : addL A more i (mixN A s more i) = b1 := by
    unfold addL
    rcases h1 with ⟨m, hm, e⟩ | ⟨hm, e⟩
    · rw [hm]; exact e.symm
    · rw [List.getElem?_eq_none hm]; exact e.symm
  show b2 = mixL A s more i (mixN A s more i)
  unfold mixL
  rw [e1]
  rcases h2 with ⟨x, hx, e⟩ | ⟨hx, e⟩
  · rw [hx]; exact e
  · rw [List.getElem?_eq_none hx]; exact e
theorem swapAt_get {α : Type} {L : List α} {a b k : Nat} {x y : α} : ((L.set a y).set b x)[k]? = if b = k ∧ k < L.length then some x else if a = k ∧ k < L.length then some y else L[k]? := by
  rw [List.getElem?_set, List.getElem?_set]
  by_cases hb : b = k
  · subst hb
    by_cases hl : b < L.length
    · simp [hl]
    · simp [hl]
  · by_cases ha : a = k
    · subst ha
      by_cases hl : a < L.length
      · simp [hb, hl]
      · simp [hb, hl]
    · simp [hb, ha]
theorem swap_mem {L : List OpD} {a b : Nat} {x y : OpD} (hx : L[a]? = some x) (hy : L[b]? = some y) (z : OpD) : z ∈ (L.set a y).set b x ↔ z ∈ L := by
  have ha := (List.getElem?_eq_some_iff.1 hx).1
  have hb := (List.getElem?_eq_some_iff.1 hy).1
  rw [List.mem_iff_getElem?, List.mem_iff_getElem?]
  constructor
  · rintro ⟨k, hk⟩
    rw [swapAt_get] at hk
    split at hk
    · exact ⟨a, hx.trans hk⟩
    · split at hk
      · exact ⟨b, hy.trans hk⟩
      · exact ⟨k, hk⟩
  · rintro ⟨k, hk⟩
    by_cases e1 : k = a
    · subst e1
      rw [hx] at hk; injection hk with hk; subst hk
      exact ⟨b, by rw [swapAt_get, if_pos ⟨rfl, hb⟩]⟩
    · by_cases e2 : k = b
      · subst e2
        rw [hy] at hk; injection hk with hk; subst hk
        refine ⟨a, ?_⟩
        rw [swapAt_get, if_neg (by omega), if_pos ⟨rfl, ha⟩]
      · exact ⟨k, by rw [swapAt_get, if_neg (by omega), if_neg (by omega)]; exact hk⟩
theorem swap_mem_iff {L S : List OpD} {a b : Nat} {x y : OpD} (h : Hid (∀ z, z ∈ L ↔ z ∈ S)) (hx : L[a]? = some x) (hy : L[b]? = some y) : Hid (∀ z, z ∈ (L.set a y).set b x ↔ z ∈ S) := fun z => (swap_mem hx hy z).trans (h.out z)
theorem foldA_next {S : List OpD} {k : Nat} {x : OpD} (h : S[k]? = some x) : insL ((S.take k).foldl insL []) x = (S.take (k + 1)).foldl insL [] := by
  rw [List.take_add_one, h, List.foldl_append]; rfl
theorem foldA_all {S : List OpD} {k : Nat} (h : S.length ≤ k) : (S.take k).foldl insL [] = S.foldl insL [] := by rw [List.take_of_length_le h]
/-- What the mixing leaves. -/
theorem mix_going {S S2 ms : List OpD} {i : Nat} (hS : SrtO S) (hm : Hid (∀ z, z ∈ S2 ↔ z ∈ S)) (hl : S2.length ≤ i) : Going (S.foldl insL []) ms 0 (mixN (S.foldl insL []) S2 ms i) := by
  have hA : ∀ x, x ∈ S.foldl insL [] ↔ x ∈ S ∧ rightB x = true := fun x => by
    rw [insA_mem hS (by simp)]; simp
  have hAs : SrtO (S.foldl insL []) := insA_srt S (by simp [SrtO])
  refine Mixed.going (s := S2) (i := i) (mixN_is hAs (fun x hx hr => (hA x).2 ⟨(hm.out x).1 hx, hr⟩) (fun x hx => ((hA x).1 hx).2) i) (fun x hx => (hm.out x).2 ((hA x).1 hx).1) hl
theorem insA_all_srt (S : List OpD) : SrtO (S.foldl insL []) := insA_srt S (by simp [SrtO])
theorem buildI_srt {A : List OpD} (h : SrtO A) : buildI A = playA A := by unfold buildI; rw [sortO_of_srt h]
theorem goneL_len (A b : List OpD) (m : OpD) : (goneL A b m).length ≤ b.length := by
  unfold goneL; split
  · exact Nat.le_refl _
  · exact remL_len b m.at_
theorem insA_sub {S : List OpD} {x : OpD} (h : x ∈ S.foldl insL []) : x ∈ S := by
  have key : ∀ (s b : List OpD), x ∈ s.foldl insL b → x ∈ b ∨ x ∈ s := by
    intro s
    induction s with
    | nil => intro b h; exact .inl h
    | cons o s ih =>
      intro b h
      rcases ih (insL b o) h with h | h
      · rcases insL_mem.1 h with h | ⟨rfl, _⟩
        · exact .inl h
        · exact .inr (by simp)
      · exact .inr (by simp [h])
  rcases key S [] h with h | h
  · cases h
  · exact h
theorem goneL_yes {A b : List OpD} {m : OpD} (h : hasL A m.at_ = true) : b = goneL A b m := by unfold goneL; rw [if_pos h]
theorem goneL_no {A b : List OpD} {m : OpD} (h : hasL A m.at_ = false) : remL b m.at_ = goneL A b m := by unfold goneL; rw [if_neg (by rw [h]; decide)]
end Go.Proofs.YtefhfoioeoijlaaGreat
