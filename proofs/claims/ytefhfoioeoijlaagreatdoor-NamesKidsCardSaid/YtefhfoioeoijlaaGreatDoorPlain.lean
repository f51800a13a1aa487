/- Plain laws of trees and logs; rows in parts (one text of several) -/
import Derived.Test.YtefhfoioeoijlaaGreatDoorGN
import Derived.Test.YtefhfoioeoijlaaGreatDoorBas
import Derived.Test.YtefhfoioeoijlaaGreatDoorArg
import Derived.Test.YtefhfoioeoijlaaGreatDoorStpR
set_option linter.unusedVariables false
set_option linter.unusedSimpArgs false
namespace Go.Proofs.YtefhfoioeoijlaaGreatDoor
/-! ### a tree that is built -/
/-- From m up to the root it is k steps. -/
inductive Roots (L : List Item) : Stamp → Nat → Prop
  | root : Roots L nilS 0
  | step {m x k} : m ≠ nilS → getI L m = some x → Roots L x.parent k → Roots L m (k + 1)
theorem Roots.one {L : List Item} {m : Stamp} {k k' : Nat} (h : Roots L m k) (h' : Roots L m k') : k = k' := by
  induction h generalizing k' with
  | root =>
    cases h' with
    | root => rfl
    | step h1 _ _ => exact absurd rfl h1
  | step h1 h2 h3 ih =>
    cases h' with
    | root => exact absurd rfl h1
    | step _ h2' h3' =>
      rw [h2] at h2'; injection h2' with h2'; subst h2'
      rw [ih h3']
theorem Roots.at_ {L : List Item} {m : Stamp} {k : Nat} (h : Roots L m k) (hm : m ≠ nilS) : ∃ x, getI L m = some x := by
  cases h with
  | root => exact absurd rfl hm
  | step _ h2 _ => exact ⟨_, h2⟩
theorem Roots.inv {L : List Item} {m : Stamp} {k : Nat} {x : Item} (h : Roots L m k) (hm : m ≠ nilS) (hx : getI L m = some x) : ∃ j, k = j + 1 ∧ Roots L x.parent j := by
  cases h with
  | root => exact absurd rfl hm
  | step _ h2 h3 => rw [hx] at h2; injection h2 with h2; subst h2; exact ⟨_, rfl, h3⟩
theorem sub_len {α : Type} [DecidableEq α] : ∀ {l l' : List α}, l.Nodup → (∀ x ∈ l, x ∈ l') → l.length ≤ l'.length
  | [], _, _, _ => Nat.zero_le _
  | x :: l, l', hn, hs => by
    obtain ⟨h1, h2⟩ := List.nodup_cons.1 hn
    have hx := hs x (by simp)
    have := sub_len (l := l) (l' := l'.erase x) h2 fun y hy => (List.mem_erase_of_ne (by rintro rfl; exact h1 hy)).2 (hs y (by simp [hy]))
    rw [List.length_erase_of_mem hx] at this
    have : 0 < l'.length := List.length_pos_of_mem hx
    simp; omega
theorem Roots.chain {L : List Item} {m : Stamp} {k : Nat} (h : Roots L m k) : ∃ l : List Stamp, l.length = k ∧ (∀ x ∈ l, x ∈ L.map (·.node) ∧ ∃ j, 0 < j ∧ j ≤ k ∧ Roots L x j) ∧ l.Nodup := by
  induction h with
  | root => exact ⟨[], rfl, by simp, by simp⟩
  | @step m x k h1 h2 h3 ih =>
    obtain ⟨l, e1, e2, e3⟩ := ih
    have hr : Roots L m (k + 1) := .step h1 h2 h3
    refine ⟨m :: l, by simp [e1], fun y hy => ?_, List.nodup_cons.2 ⟨fun hm => ?_, e3⟩⟩
    · rcases List.mem_cons.1 hy with rfl | hy
      · obtain ⟨g1, g2⟩ := getI_some h2
        exact ⟨List.mem_map.2 ⟨x, g1, g2⟩, k + 1, by omega, by omega, hr⟩
      · obtain ⟨a, j, b, c, d⟩ := e2 y hy
        exact ⟨a, j, b, by omega, d⟩
    · obtain ⟨_, j, _, hj, hR⟩ := e2 m hm
      have := hr.one hR; omega
theorem Roots.le {L : List Item} {m : Stamp} {k : Nat} (h : Roots L m k) : k ≤ L.length := by
  obtain ⟨l, e1, e2, e3⟩ := h.chain
  have := sub_len e3 fun x hx => (e2 x hx).1
  simp at this; omega
theorem Roots.within {L : List Item} {m : Stamp} {k f : Nat} (h : Roots L m k) (hf : k < f) : withinI L nilS f m = true := by
  induction h generalizing f with
  | root => obtain ⟨f, rfl⟩ : ∃ g, f = g + 1 := ⟨f - 1, by omega⟩; simp [withinI]
  | step h1 h2 _ ih =>
    obtain ⟨f, rfl⟩ : ∃ g, f = g + 1 := ⟨f - 1, by omega⟩
    simp [withinI, h1, h2, ih (by omega : _ < f)]
theorem within_roots {L : List Item} {n : Stamp} (hn : getI L nilS = none) : ∀ {f : Nat} {m : Stamp} {k : Nat}, withinI L n f m = true → Roots L m k → ∃ j, j ≤ k ∧ Roots L n j
  | f + 1, m, k, h, hr => by
    simp only [withinI] at h
    by_cases hm : m = n
    · subst hm; exact ⟨k, Nat.le_refl _, hr⟩
    · rw [if_neg hm] at h
      cases hg : getI L m with
      | none => rw [hg] at h; cases h
      | some x =>
        rw [hg] at h
        cases hr with
        | root => rw [hn] at hg; cases hg
        | step h1 h2 h3 =>
          rw [hg] at h2; injection h2 with h2; subst h2
          obtain ⟨j, hj, hR⟩ := within_roots hn h h3
          exact ⟨j, by omega, hR⟩
theorem getI_put {it : Item} {m : Stamp} : ∀ {L : List Item}, getI (putI it L) m = if m = it.node then some it else getI L m
  | [] => by
    by_cases h : m = it.node
    · simp [putI, getI, h]
    · have h' : ¬ it.node = m := fun e => h e.symm
      simp [putI, getI, h, h']
  | y :: L => by
    have ih := getI_put (it := it) (m := m) (L := L)
    by_cases h1 : ltS it.node y.node = true
    · by_cases h : m = it.node
      · simp [putI, h1, getI, h]
      · have h' : ¬ it.node = m := fun e => h e.symm
        simp [putI, h1, getI, h, h']
    · by_cases h2 : y.node = it.node
      · by_cases h : m = it.node
        · simp [putI, h1, h2, getI, h, ltS_irrefl]
        · have h' : ¬ it.node = m := fun e => h e.symm
          simp [putI, h1, h2, getI, h, h', ltS_irrefl]
      · simp only [putI, h1, h2, if_false, Bool.false_eq_true]
        by_cases h3 : y.node = m
        · have h : ¬ m = it.node := fun e => h2 (h3.trans e)
          simp [getI, h3, h]
        · unfold getI at ih ⊢
          simp only [List.find?_cons, h3, decide_false]
          exact ih
/-- A tree whose items hang together. -/
structure Wf (L : List Item) : Prop where
  srt : Srt L
  nonil : ∀ x ∈ L, x.node ≠ nilS
  roots : ∀ x ∈ L, ∃ k, Roots L x.node k
  dirs : ∀ x ∈ L, x.parent = nilS ∨ ∃ y ∈ L, y.node = x.parent ∧ y.dir = true
  empt : ∀ x ∈ L, x.dir = true → x.data = []
theorem Wf.nil : Wf [] := ⟨by simp [Srt], by simp, by simp, by simp, by simp⟩
theorem Wf.nope {L : List Item} (h : Wf L) : getI L nilS = none := getI_none.2 h.nonil
theorem mem_put {it x : Item} {L : List Item} (hs : Srt L) (h : x ∈ putI it L) : x = it ∨ x ∈ L ∧ x.node ≠ it.node := by
  have hg := getI_mem hs.putI h
  rw [getI_put] at hg
  by_cases e : x.node = it.node
  · rw [if_pos e] at hg; injection hg with hg; exact .inl hg.symm
  · rw [if_neg e] at hg; exact .inr ⟨(getI_some hg).1, e⟩
theorem put_mem {it x : Item} {L : List Item} (hs : Srt L) (h : x ∈ L) (e : x.node ≠ it.node) : x ∈ putI it L := by
  have hg := getI_put (it := it) (m := x.node) (L := L)
  rw [if_neg e, getI_mem hs h] at hg
  exact (getI_some hg).1
theorem put_self {it : Item} {L : List Item} : it ∈ putI it L := by
  have hg := getI_put (it := it) (m := it.node) (L := L)
  rw [if_pos rfl] at hg
  exact (getI_some hg).1
theorem Wf.up {L : List Item} (h : Wf L) {p : Stamp} (hp : p = nilS ∨ ∃ y ∈ L, y.node = p ∧ y.dir = true) : ∃ k, Roots L p k := by
  rcases hp with rfl | ⟨y, hy, rfl, _⟩
  · exact ⟨0, .root⟩
  · exact h.roots y hy
theorem Wf.put {L : List Item} {it : Item} (h : Wf L) (hl : L.length ≤ 300) (hn : it.node ≠ nilS) (hp : it.parent = nilS ∨ ∃ y ∈ L, y.node = it.parent ∧ y.dir = true) (hd : ∀ old, getI L it.node = some old → old.dir = it.dir) (he : it.dir = true → it.data = [])
    (ha : (∃ old, getI L it.node = some old ∧ old.parent = it.parent) ∨ withinI L it.node 301 it.parent = false) : Wf (putI it L) := by
  have hdir : ∀ p, (p = nilS ∨ ∃ y ∈ L, y.node = p ∧ y.dir = true) → p = nilS ∨ ∃ y ∈ putI it L, y.node = p ∧ y.dir = true := by
    rintro p (e | ⟨y, hy, e1, e2⟩)
    · exact .inl e
    · by_cases e : y.node = it.node
      · refine .inr ⟨it, put_self, by rw [← e, e1], ?_⟩
        rw [← hd y (by rw [← e]; exact getI_mem h.srt hy)]; exact e2
      · exact .inr ⟨y, put_mem h.srt hy e, e1, e2⟩
  refine ⟨h.srt.putI, fun x hx => ?_, fun x hx => ?_, fun x hx => ?_, fun x hx => ?_⟩
  · rcases mem_put h.srt hx with rfl | ⟨hx, _⟩
    · exact hn
    · exact h.nonil x hx
  · have key : ∀ m k, Roots L m k → ∃ k', Roots (putI it L) m k' := by
      rcases ha with ⟨old, ho, hop⟩ | hw
      · intro m k hr
        refine ⟨k, ?_⟩
        induction hr with
        | root => exact .root
        | @step m x k h1 h2 h3 ih =>
          by_cases e : m = it.node
          · refine .step (x := it) h1 (by rw [getI_put, if_pos e]) ?_
            rw [e, ho] at h2; injection h2 with h2
            rw [← hop, h2]; exact ih
          · exact .step h1 (by rw [getI_put, if_neg e]; exact h2) ih
      · obtain ⟨kp, hkp⟩ := h.up hp
        have c1 : ∀ m k f, Roots L m k → k < f → withinI L it.node f m = false → Roots (putI it L) m k := by
          intro m k f hr
          induction hr generalizing f with
          | root => intro _ _; exact .root
          | @step m x k h1 h2 h3 ih =>
            intro hf hwf
            obtain ⟨f, rfl⟩ : ∃ g, f = g + 1 := ⟨f - 1, by omega⟩
            simp only [withinI] at hwf
            by_cases e : m = it.node
            · rw [if_pos e] at hwf; cases hwf
            · rw [if_neg e, h2] at hwf
              exact .step h1 (by rw [getI_put, if_neg e]; exact h2) (ih f (by omega) hwf)
        have hR : Roots (putI it L) it.node (kp + 1) := .step (x := it) hn (by rw [getI_put, if_pos rfl]) (c1 _ _ 301 hkp (by have := hkp.le; omega) hw)
        intro m k hr
        induction hr with
        | root => exact ⟨0, .root⟩
        | @step m x k h1 h2 h3 ih =>
          by_cases e : m = it.node
          · exact ⟨_, e ▸ hR⟩
          · obtain ⟨k', ih⟩ := ih
            exact ⟨k' + 1, .step h1 (by rw [getI_put, if_neg e]; exact h2) ih⟩
    rcases mem_put h.srt hx with rfl | ⟨hx, _⟩
    · rcases ha with ⟨old, ho, _⟩ | hw
      · obtain ⟨g1, g2⟩ := getI_some ho
        obtain ⟨k, hk⟩ := h.roots old g1
        rw [g2] at hk
        exact key _ k hk
      · obtain ⟨kp, hkp⟩ := h.up hp
        obtain ⟨k', hk'⟩ := key _ _ hkp
        exact ⟨k' + 1, .step (x := x) hn (by rw [getI_put, if_pos rfl]) hk'⟩
    · obtain ⟨k, hk⟩ := h.roots x hx
      exact key _ k hk
  · rcases mem_put h.srt hx with rfl | ⟨hx, _⟩
    · exact hdir _ hp
    · exact hdir _ (h.dirs x hx)
  · rcases mem_put h.srt hx with rfl | ⟨hx, _⟩
    · exact he
    · exact h.empt x hx
theorem doI_len {L : List Item} {o : OpD} (hs : Srt L) (hl : L.length ≤ 300) : (doI L o).2.length ≤ 300 := by
  unfold doI
  split
  · exact hl
  · split
    · exact hl
    · rename_i h1 h2
      show (if (nowI L (gotI L o.node) o).2 = true then putI (nowI L (gotI L o.node) o).1 L else L).length ≤ 300
      split
      · rename_i h3
        by_cases hh : hasI L o.node = true
        · exact putI_len_has hs (by rw [nowI_node h3]; exact hh) hl
        · refine putI_len_new (Nat.lt_of_not_le fun h4 => h2 ⟨h3, by simpa using hh, h4⟩)
      · exact hl
theorem dirI_up {L : List Item} {p : Stamp} (h : dirI L p = true) : p = nilS ∨ ∃ y ∈ L, y.node = p ∧ y.dir = true := by
  unfold dirI at h
  rw [Bool.or_eq_true] at h
  rcases h with h | h
  · exact .inl (of_decide_eq_true h)
  · unfold gotI at h
    cases hg : getI L p with
    | none => rw [hg] at h; cases h
    | some y =>
      rw [hg] at h
      obtain ⟨g1, g2⟩ := getI_some hg
      exact .inr ⟨y, g1, g2, h⟩
theorem got_some {L : List Item} {n : Stamp} (hn : n ≠ nilS) (h : (gotI L n).node = n) : getI L n = some (gotI L n) := by
  unfold gotI at h ⊢
  cases hg : getI L n with
  | none => rw [hg] at h; exact absurd h.symm hn
  | some y => rfl
theorem Wf.doI {L : List Item} (h : Wf L) (hl : L.length ≤ 300) (o : OpD) : Wf (doI L o).2 := by
  unfold Go.Proofs.YtefhfoioeoijlaaGreatDoor.doI
  split
  · exact h
  · split
    · exact h
    · rename_i h1 h2
      show Wf (if (nowI L (gotI L o.node) o).2 = true then putI (nowI L (gotI L o.node) o).1 L else L)
      split
      · rename_i h3
        have hr : rightB o = true := by simpa using h1
        have hn : o.node ≠ nilS := by
          have h5 : stR o.node = true := by unfold rightB at hr; simp only [Bool.and_eq_true] at hr; exact hr.2.1
          intro e; rw [e] at h5; cases h5
        have hnode := nowI_node h3
        have same : (gotI L o.node).node = o.node → (gotI L o.node) ∈ L := fun e => (getI_some (got_some hn e)).1
        unfold nowI at h3 hnode ⊢
        by_cases k1 : o.kind = 1
        · rw [if_pos k1] at h3 hnode ⊢
          simp only [Bool.and_eq_true, Bool.not_eq_true', decide_eq_false_iff_not] at h3
          have hg : getI L o.node = none := by
            cases hg : getI L o.node with
            | none => rfl
            | some y => have : gotI L o.node = y := by simp [gotI, hg]
                        rw [this] at h3; exact absurd (getI_some hg).2 h3.1
          refine h.put hl hn (dirI_up h3.2) (fun old ho => by rw [hg] at ho; cases ho) (fun _ => rfl) (.inr ?_)
          cases hw : withinI L o.node 301 o.parent with
          | false => rfl
          | true =>
            obtain ⟨kp, hkp⟩ := h.up (dirI_up h3.2)
            obtain ⟨j, _, hR⟩ := within_roots h.nope hw hkp
            obtain ⟨z, hz⟩ := hR.at_ hn
            rw [hg] at hz; cases hz
        · rw [if_neg k1] at h3 hnode ⊢
          by_cases k2 : o.kind = 2
          · rw [if_pos k2] at h3 hnode ⊢
            simp only [Bool.and_eq_true, Bool.not_eq_true', decide_eq_true_eq] at h3
            have hx := same h3.1
            have hg := got_some hn h3.1
            refine h.put hl (by rw [hnode]; exact hn) (dirI_up h3.2.1) (fun old ho => ?_) (fun e => h.empt (gotI L o.node) hx e) (.inr ?_)
            · rw [hnode, hg] at ho; injection ho with ho; rw [← ho]
            · rw [hnode]; exact h3.2.2
          · rw [if_neg k2] at h3 hnode ⊢
            by_cases k3 : o.kind = 3
            · rw [if_pos k3] at h3 hnode ⊢
              have e3 : (gotI L o.node).node = o.node := of_decide_eq_true h3
              have hx := same e3
              have hg := got_some hn e3
              refine h.put hl (by rw [hnode]; exact hn) (h.dirs (gotI L o.node) hx) (fun old ho => ?_) (fun e => h.empt (gotI L o.node) hx e) (.inl ⟨gotI L o.node, by show getI L (gotI L o.node).node = _; rw [e3]; exact hg, rfl⟩)
              rw [hnode, hg] at ho; injection ho with ho; rw [← ho]
            · rw [if_neg k3] at h3 hnode ⊢
              simp only [Bool.and_eq_true, Bool.not_eq_true', decide_eq_true_eq] at h3
              have hx := same h3.1
              have hg := got_some hn h3.1
              refine h.put hl (by rw [hnode]; exact hn) (h.dirs (gotI L o.node) hx) (fun old ho => ?_) (fun e => ?_) (.inl ⟨gotI L o.node, by show getI L (gotI L o.node).node = _; rw [h3.1]; exact hg, rfl⟩)
              · rw [hnode, hg] at ho; injection ho with ho; rw [← ho]
              · rw [show (gotI L o.node).dir = true from e] at h3; cases h3.2
      · exact h
theorem fold_wf {l : List OpD} : ∀ {L : List Item}, Wf L → L.length ≤ 300 → Wf (l.foldl playI L) ∧ (l.foldl playI L).length ≤ 300 := by
  induction l with
  | nil => intro L h hl; exact ⟨h, hl⟩
  | cons o l ih => intro L h hl; exact ih (h.doI hl o) (doI_len h.srt hl)
theorem buildI_wf (os : List OpD) : Wf (buildI os) ∧ (buildI os).length ≤ 300 := fold_wf Wf.nil (by simp)
theorem Roots.hangs {L : List Item} {m : Stamp} {k : Nat} (h : Roots L m k) : ∀ f g, k < f → k < g → hangsI L f m = hangsI L g m := by
  induction h with
  | root =>
    intro f g hf hg
    obtain ⟨f, rfl⟩ : ∃ x, f = x + 1 := ⟨f - 1, by omega⟩
    obtain ⟨g, rfl⟩ : ∃ x, g = x + 1 := ⟨g - 1, by omega⟩
    simp [hangsI]
  | step h1 h2 _ ih =>
    intro f g hf hg
    obtain ⟨f, rfl⟩ : ∃ x, f = x + 1 := ⟨f - 1, by omega⟩
    obtain ⟨g, rfl⟩ : ∃ x, g = x + 1 := ⟨g - 1, by omega⟩
    simp [hangsI, h1, h2, ih f g (by omega) (by omega)]
theorem Wf.item {L : List Item} (h : Wf L) (hl : L.length ≤ 300) {x : Item} (hx : x ∈ L) : withinI L x.node 301 x.parent = false ∧ withinI L nilS 301 x.node = true ∧ (x.parent ≠ nilS → hasI L x.parent = true ∧ (gotI L x.parent).dir = true) ∧
    hangsI L 301 x.node = (!x.gone && hangsI L 301 x.parent) ∧ (x.dir = true → x.data = []) := by
  obtain ⟨k, hk⟩ := h.roots x hx
  have hle := hk.le
  have hg := getI_mem h.srt hx
  obtain ⟨k', rfl, hp⟩ : ∃ j, k = j + 1 ∧ Roots L x.parent j := by
    exact hk.inv (h.nonil x hx) hg
  refine ⟨?_, hk.within (by omega), fun hne => ?_, ?_, h.empt x hx⟩
  · cases hw : withinI L x.node 301 x.parent with
    | false => rfl
    | true =>
      obtain ⟨j, hj, hR⟩ := within_roots h.nope hw hp
      have := hk.one hR; omega
  · rcases h.dirs x hx with e | ⟨y, hy, e1, e2⟩
    · exact absurd e hne
    · have hgy := getI_mem h.srt hy
      rw [e1] at hgy
      exact ⟨by simp [hasI, hgy], by simp [gotI, hgy, e2]⟩
  · have e := hp.hangs 300 301 (by omega) (by omega)
    have e2 : hangsI L (300 + 1) x.node = if x.gone then false else hangsI L 300 x.parent := by
      rw [hangsI, if_neg (h.nonil x hx), hg]
    rw [show (301 : Nat) = 300 + 1 from rfl, e2, e]
    cases x.gone
    · rfl
    · rfl
end Go.Proofs.YtefhfoioeoijlaaGreatDoor

namespace Go.Proofs.YtefhfoioeoijlaaGreatDoor
open Go Go.RowKit Go.Sort


end Go.Proofs.YtefhfoioeoijlaaGreatDoor

namespace Go.Proofs.YtefhfoioeoijlaaGreatDoor
open Go Go.RowKit Go.Sort

section
variable {P : Program} {d : Option Tmp} {ty : TypeId} {pos : String} {af : Array Edge} {g : Option (Nat × Bool)} {ρ : Operand → Value} {w w' : World}
theorem r_mapUpdate {t : TypeId} {m k v : Operand} {mv kv vv : Value} (hm : ρ m = mv) (hk : ρ k = kv) (hv : ρ v = vv) (h : (Instr.mapUpdate t mv kv vv).run P w = .ok () w') : (execOp ρ ⟨d, .mapUpdate t m k v, ty, pos, af, g⟩).run P w = .ok .skip w' := by
  simp [execOp, hm, hk, hv, h]
end
end Go.Proofs.YtefhfoioeoijlaaGreatDoor

namespace Go.Proofs.YtefhfoioeoijlaaGreatDoor
/-! ### set back -/
end Go.Proofs.YtefhfoioeoijlaaGreatDoor

namespace Go.Proofs.YtefhfoioeoijlaaGreatDoor
end Go.Proofs.YtefhfoioeoijlaaGreatDoor

namespace Go.Proofs.YtefhfoioeoijlaaGreatDoor
open Go Go.RowKit Go.Sort

section
variable {P : Program}
end
section
variable {T : TypeId} {ops : Array Oper} {Q : Exit → Act → World → Prop} {a : Act} {w : World} {J : Act → World → Prop} {d : Option Tmp} {ty : TypeId} {pos : String} {af : Array Edge} {gd : Option (Nat × Bool)} {B base : Nat} {L M : List OpD} {t : TypeId} {i : TypeInfo} {z : Value}
end
/-! ### the document's place for an operation -/
end Go.Proofs.YtefhfoioeoijlaaGreatDoor

namespace Go.Proofs.YtefhfoioeoijlaaGreatDoor
open Go Go.RowKit Go.Sort
section
open Go.ChangeShapes Go.WideShapes Go.ChangeAt Go.Deep
variable {H : Type} {enc : TypeId × Value → H}
end
section
variable {P : Program} {d : Option Tmp} {ty : TypeId} {pos : String} {af : Array Edge} {gd : Option (Nat × Bool)} {ρ : Operand → Value} {w : World}
end
end Go.Proofs.YtefhfoioeoijlaaGreatDoor

namespace Go.Proofs.YtefhfoioeoijlaaGreatDoor
end Go.Proofs.YtefhfoioeoijlaaGreatDoor

namespace Go.Proofs.YtefhfoioeoijlaaGreatDoor
end Go.Proofs.YtefhfoioeoijlaaGreatDoor

namespace Go.Proofs.YtefhfoioeoijlaaGreatDoor
open Go Go.RowKit Go.Sort
end Go.Proofs.YtefhfoioeoijlaaGreatDoor
