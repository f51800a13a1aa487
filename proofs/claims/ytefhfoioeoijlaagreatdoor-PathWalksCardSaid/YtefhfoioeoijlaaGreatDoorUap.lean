/- Plain, Nm -/
import Derived.Lib.ItoaLen
import Derived.Test.YtefhfoioeoijlaaGreatDoorUab
import Derived.Test.YtefhfoioeoijlaaGreatDoorUah
import Derived.Test.YtefhfoioeoijlaaGreatDoorUao
set_option linter.unusedVariables false
set_option linter.unusedSimpArgs false
namespace Go.Proofs.YtefhfoioeoijlaaGreatDoor
inductive Roots (L : List Item) : Stamp → Nat → Prop
  | root : Roots L nilS 0
  | step {m x k} : m ≠ nilS → getI L m = some x → Roots L x.parent k → Roots L m (k + 1)
theorem Roots.one {L : List Item} {m : Stamp} {k k' : Nat} (h : Roots L m k) (h' : Roots L m k') : k = k' := by
  induction h generalizing k' with
  | root =>
    cases h' with
    | root => rfl
    | step h1 _ _ => exact absurd rfl h1
  | step h1 h2 h3 ih =>
    cases h' with
    | root => exact absurd rfl h1
    | step _ h2' h3' =>
      rw [h2] at h2'; injection h2' with h2'; subst h2'
      rw [ih h3']
theorem Roots.at_ {L : List Item} {m : Stamp} {k : Nat} (h : Roots L m k) (hm : m ≠ nilS) : ∃ x, getI L m = some x := by
  cases h with
  | root => exact absurd rfl hm
  | step _ h2 _ => exact ⟨_, h2⟩
theorem sub_len {α : Type} [DecidableEq α] : ∀ {l l' : List α}, l.Nodup → (∀ x ∈ l, x ∈ l') → l.length ≤ l'.length
  | [], _, _, _ => Nat.zero_le _
  | x :: l, l', hn, hs => by
    obtain ⟨h1, h2⟩ := List.nodup_cons.1 hn
    have hx := hs x (by simp)
    have := sub_len (l := l) (l' := l'.erase x) h2 fun y hy => (List.mem_erase_of_ne (by rintro rfl; exact h1 hy)).2 (hs y (by simp [hy]))
    rw [List.length_erase_of_mem hx] at this
    have : 0 < l'.length := List.length_pos_of_mem hx
    simp; omega
theorem Roots.chain {L : List Item} {m : Stamp} {k : Nat} (h : Roots L m k) : ∃ l : List Stamp, l.length = k ∧ (∀ x ∈ l, x ∈ L.map (·.node) ∧ ∃ j, 0 < j ∧ j ≤ k ∧ Roots L x j) ∧ l.Nodup := by
  induction h with
  | root => exact ⟨[], rfl, by simp, by simp⟩
  | @step m x k h1 h2 h3 ih =>
    obtain ⟨l, e1, e2, e3⟩ := ih
    have hr : Roots L m (k + 1) := .step h1 h2 h3
    refine ⟨m :: l, by simp [e1], fun y hy => ?_, List.nodup_cons.2 ⟨fun hm => ?_, e3⟩⟩
    · rcases List.mem_cons.1 hy with rfl | hy
      · obtain ⟨g1, g2⟩ := getI_some h2
        exact ⟨List.mem_map.2 ⟨x, g1, g2⟩, k + 1, by omega, by omega, hr⟩
      · obtain ⟨a, j, b, c, d⟩ := e2 y hy
        exact ⟨a, j, b, by omega, d⟩
    · obtain ⟨_, j, _, hj, hR⟩ := e2 m hm
      have := hr.one hR; omega
theorem Roots.le {L : List Item} {m : Stamp} {k : Nat} (h : Roots L m k) : k ≤ L.length := by
  obtain ⟨l, e1, e2, e3⟩ := h.chain
  have := sub_len e3 fun x hx => (e2 x hx).1
  simp at this; omega
theorem within_roots {L : List Item} {n : Stamp} (hn : getI L nilS = none) : ∀ {f : Nat} {m : Stamp} {k : Nat}, withinI L n f m = true → Roots L m k → ∃ j, j ≤ k ∧ Roots L n j
  | f + 1, m, k, h, hr => by
    simp only [withinI] at h
    by_cases hm : m = n
    · subst hm; exact ⟨k, Nat.le_refl _, hr⟩
    · rw [if_neg hm] at h
      cases hg : getI L m with
      | none => rw [hg] at h; cases h
      | some x =>
        rw [hg] at h
        cases hr with
        | root => rw [hn] at hg; cases hg
        | step h1 h2 h3 =>
          rw [hg] at h2; injection h2 with h2; subst h2
          obtain ⟨j, hj, hR⟩ := within_roots hn h h3
          exact ⟨j, by omega, hR⟩
theorem getI_put {it : Item} {m : Stamp} : ∀ {L : List Item}, getI (putI it L) m = if m = it.node then some it else getI L m
  | [] => by
    by_cases h : m = it.node
    · simp [putI, getI, h]
    · have h' : ¬ it.node = m := fun e => h e.symm
      simp [putI, getI, h, h']
  | y :: L => by
    have ih := getI_put (it := it) (m := m) (L := L)
    by_cases h1 : ltS it.node y.node = true
    · by_cases h : m = it.node
      · simp [putI, h1, getI, h]
      · have h' : ¬ it.node = m := fun e => h e.symm
        simp [putI, h1, getI, h, h']
    · by_cases h2 : y.node = it.node
      · by_cases h : m = it.node
        · simp [putI, h1, h2, getI, h, ltS_irrefl]
        · have h' : ¬ it.node = m := fun e => h e.symm
          simp [putI, h1, h2, getI, h, h', ltS_irrefl]
      · simp only [putI, h1, h2, if_false, Bool.false_eq_true]
        by_cases h3 : y.node = m
        · have h : ¬ m = it.node := fun e => h2 (h3.trans e)
          simp [getI, h3, h]
        · unfold getI at ih ⊢
          simp only [List.find?_cons, h3, decide_false]
          exact ih
structure Wf (L : List Item) : Prop where
  srt : Srt L
  nonil : ∀ x ∈ L, x.node ≠ nilS
  roots : ∀ x ∈ L, ∃ k, Roots L x.node k
  dirs : ∀ x ∈ L, x.parent = nilS ∨ ∃ y ∈ L, y.node = x.parent ∧ y.dir = true
  empt : ∀ x ∈ L, x.dir = true → x.data = []
theorem Wf.nil : Wf [] := ⟨by simp [Srt], by simp, by simp, by simp, by simp⟩
theorem Wf.nope {L : List Item} (h : Wf L) : getI L nilS = none := getI_none.2 h.nonil
theorem mem_put {it x : Item} {L : List Item} (hs : Srt L) (h : x ∈ putI it L) : x = it ∨ x ∈ L ∧ x.node ≠ it.node := by
  have hg := getI_mem hs.putI h
  rw [getI_put] at hg
  by_cases e : x.node = it.node
  · rw [if_pos e] at hg; injection hg with hg; exact .inl hg.symm
  · rw [if_neg e] at hg; exact .inr ⟨(getI_some hg).1, e⟩
theorem put_mem {it x : Item} {L : List Item} (hs : Srt L) (h : x ∈ L) (e : x.node ≠ it.node) : x ∈ putI it L := by
  have hg := getI_put (it := it) (m := x.node) (L := L)
  rw [if_neg e, getI_mem hs h] at hg
  exact (getI_some hg).1
theorem put_self {it : Item} {L : List Item} : it ∈ putI it L := by
  have hg := getI_put (it := it) (m := it.node) (L := L)
  rw [if_pos rfl] at hg
  exact (getI_some hg).1
theorem Wf.up {L : List Item} (h : Wf L) {p : Stamp} (hp : p = nilS ∨ ∃ y ∈ L, y.node = p ∧ y.dir = true) : ∃ k, Roots L p k := by
  rcases hp with rfl | ⟨y, hy, rfl, _⟩
  · exact ⟨0, .root⟩
  · exact h.roots y hy
theorem Wf.put {L : List Item} {it : Item} (h : Wf L) (hl : L.length ≤ 300) (hn : it.node ≠ nilS) (hp : it.parent = nilS ∨ ∃ y ∈ L, y.node = it.parent ∧ y.dir = true) (hd : ∀ old, getI L it.node = some old → old.dir = it.dir) (he : it.dir = true → it.data = [])
    (ha : (∃ old, getI L it.node = some old ∧ old.parent = it.parent) ∨ withinI L it.node 301 it.parent = false) : Wf (putI it L) := by
  have hdir : ∀ p, (p = nilS ∨ ∃ y ∈ L, y.node = p ∧ y.dir = true) → p = nilS ∨ ∃ y ∈ putI it L, y.node = p ∧ y.dir = true := by
    rintro p (e | ⟨y, hy, e1, e2⟩)
    · exact .inl e
    · by_cases e : y.node = it.node
      · refine .inr ⟨it, put_self, by rw [← e, e1], ?_⟩
        rw [← hd y (by rw [← e]; exact getI_mem h.srt hy)]; exact e2
      · exact .inr ⟨y, put_mem h.srt hy e, e1, e2⟩
  refine ⟨h.srt.putI, fun x hx => ?_, fun x hx => ?_, fun x hx => ?_, fun x hx => ?_⟩
  · rcases mem_put h.srt hx with rfl | ⟨hx, _⟩
    · exact hn
    · exact h.nonil x hx
  · have key : ∀ m k, Roots L m k → ∃ k', Roots (putI it L) m k' := by
      rcases ha with ⟨old, ho, hop⟩ | hw
      · intro m k hr
        refine ⟨k, ?_⟩
        induction hr with
        | root => exact .root
        | @step m x k h1 h2 h3 ih =>
          by_cases e : m = it.node
          · refine .step (x := it) h1 (by rw [getI_put, if_pos e]) ?_
            rw [e, ho] at h2; injection h2 with h2
            rw [← hop, h2]; exact ih
          · exact .step h1 (by rw [getI_put, if_neg e]; exact h2) ih
      · obtain ⟨kp, hkp⟩ := h.up hp
        have c1 : ∀ m k f, Roots L m k → k < f → withinI L it.node f m = false → Roots (putI it L) m k := by
          intro m k f hr
          induction hr generalizing f with
          | root => intro _ _; exact .root
          | @step m x k h1 h2 h3 ih =>
            intro hf hwf
            obtain ⟨f, rfl⟩ : ∃ g, f = g + 1 := ⟨f - 1, by omega⟩
            simp only [withinI] at hwf
            by_cases e : m = it.node
            · rw [if_pos e] at hwf; cases hwf
            · rw [if_neg e, h2] at hwf
              exact .step h1 (by rw [getI_put, if_neg e]; exact h2) (ih f (by omega) hwf)
        have hR : Roots (putI it L) it.node (kp + 1) := .step (x := it) hn (by rw [getI_put, if_pos rfl]) (c1 _ _ 301 hkp (by have := hkp.le; omega) hw)
        intro m k hr
        induction hr with
        | root => exact ⟨0, .root⟩
        | @step m x k h1 h2 h3 ih =>
          by_cases e : m = it.node
          · exact ⟨_, e ▸ hR⟩
          · obtain ⟨k', ih⟩ := ih
            exact ⟨k' + 1, .step h1 (by rw [getI_put, if_neg e]; exact h2) ih⟩
    rcases mem_put h.srt hx with rfl | ⟨hx, _⟩
    · rcases ha with ⟨old, ho, _⟩ | hw
      · obtain ⟨g1, g2⟩ := getI_some ho
        obtain ⟨k, hk⟩ := h.roots old g1
        rw [g2] at hk
        exact key _ k hk
      · obtain ⟨kp, hkp⟩ := h.up hp
        obtain ⟨k', hk'⟩ := key _ _ hkp
        exact ⟨k' + 1, .step (x := x) hn (by rw [getI_put, if_pos rfl]) hk'⟩
    · obtain ⟨k, hk⟩ := h.roots x hx
      exact key _ k hk
  · rcases mem_put h.srt hx with rfl | ⟨hx, _⟩
    · exact hdir _ hp
    · exact hdir _ (h.dirs x hx)
  · rcases mem_put h.srt hx with rfl | ⟨hx, _⟩
    · exact he
    · exact h.empt x hx
theorem doI_len {L : List Item} {o : OpD} (hs : Srt L) (hl : L.length ≤ 300) : (doI L o).2.length ≤ 300 := by
  unfold doI
  split
  · exact hl
  · split
    · exact hl
    · rename_i h1 h2
      show (if (nowI L (gotI L o.node) o).2 = true then putI (nowI L (gotI L o.node) o).1 L else L).length ≤ 300
      split
      · rename_i h3
        by_cases hh : hasI L o.node = true
        · exact putI_len_has hs (by rw [nowI_node h3]; exact hh) hl
        · refine putI_len_new (Nat.lt_of_not_le fun h4 => h2 ⟨h3, by simpa using hh, h4⟩)
      · exact hl
theorem dirI_up {L : List Item} {p : Stamp} (h : dirI L p = true) : p = nilS ∨ ∃ y ∈ L, y.node = p ∧ y.dir = true := by
  unfold dirI at h
  rw [Bool.or_eq_true] at h
  rcases h with h | h
  · exact .inl (of_decide_eq_true h)
  · unfold gotI at h
    cases hg : getI L p with
    | none => rw [hg] at h; cases h
    | some y =>
      rw [hg] at h
      obtain ⟨g1, g2⟩ := getI_some hg
      exact .inr ⟨y, g1, g2, h⟩
theorem got_some {L : List Item} {n : Stamp} (hn : n ≠ nilS) (h : (gotI L n).node = n) : getI L n = some (gotI L n) := by
  unfold gotI at h ⊢
  cases hg : getI L n with
  | none => rw [hg] at h; exact absurd h.symm hn
  | some y => rfl
theorem Wf.doI {L : List Item} (h : Wf L) (hl : L.length ≤ 300) (o : OpD) : Wf (doI L o).2 := by
  unfold Go.Proofs.YtefhfoioeoijlaaGreatDoor.doI
  split
  · exact h
  · split
    · exact h
    · rename_i h1 h2
      show Wf (if (nowI L (gotI L o.node) o).2 = true then putI (nowI L (gotI L o.node) o).1 L else L)
      split
      · rename_i h3
        have hr : rightB o = true := by simpa using h1
        have hn : o.node ≠ nilS := by
          have h5 : stR o.node = true := by unfold rightB at hr; simp only [Bool.and_eq_true] at hr; exact hr.2.1
          intro e; rw [e] at h5; cases h5
        have hnode := nowI_node h3
        have same : (gotI L o.node).node = o.node → (gotI L o.node) ∈ L := fun e => (getI_some (got_some hn e)).1
        unfold nowI at h3 hnode ⊢
        by_cases k1 : o.kind = 1
        · rw [if_pos k1] at h3 hnode ⊢
          simp only [Bool.and_eq_true, Bool.not_eq_true', decide_eq_false_iff_not] at h3
          have hg : getI L o.node = none := by
            cases hg : getI L o.node with
            | none => rfl
            | some y => have : gotI L o.node = y := by simp [gotI, hg]
                        rw [this] at h3; exact absurd (getI_some hg).2 h3.1
          refine h.put hl hn (dirI_up h3.2) (fun old ho => by rw [hg] at ho; cases ho) (fun _ => rfl) (.inr ?_)
          cases hw : withinI L o.node 301 o.parent with
          | false => rfl
          | true =>
            obtain ⟨kp, hkp⟩ := h.up (dirI_up h3.2)
            obtain ⟨j, _, hR⟩ := within_roots h.nope hw hkp
            obtain ⟨z, hz⟩ := hR.at_ hn
            rw [hg] at hz; cases hz
        · rw [if_neg k1] at h3 hnode ⊢
          by_cases k2 : o.kind = 2
          · rw [if_pos k2] at h3 hnode ⊢
            simp only [Bool.and_eq_true, Bool.not_eq_true', decide_eq_true_eq] at h3
            have hx := same h3.1
            have hg := got_some hn h3.1
            refine h.put hl (by rw [hnode]; exact hn) (dirI_up h3.2.1) (fun old ho => ?_) (fun e => h.empt (gotI L o.node) hx e) (.inr ?_)
            · rw [hnode, hg] at ho; injection ho with ho; rw [← ho]
            · rw [hnode]; exact h3.2.2
          · rw [if_neg k2] at h3 hnode ⊢
            by_cases k3 : o.kind = 3
            · rw [if_pos k3] at h3 hnode ⊢
              have e3 : (gotI L o.node).node = o.node := of_decide_eq_true h3
              have hx := same e3
              have hg := got_some hn e3
              refine h.put hl (by rw [hnode]; exact hn) (h.dirs (gotI L o.node) hx) (fun old ho => ?_) (fun e => h.empt (gotI L o.node) hx e) (.inl ⟨gotI L o.node, by show getI L (gotI L o.node).node = _; rw [e3]; exact hg, rfl⟩)
              rw [hnode, hg] at ho; injection ho with ho; rw [← ho]
            · rw [if_neg k3] at h3 hnode ⊢
              simp only [Bool.and_eq_true, Bool.not_eq_true', decide_eq_true_eq] at h3
              have hx := same h3.1
              have hg := got_some hn h3.1
              refine h.put hl (by rw [hnode]; exact hn) (h.dirs (gotI L o.node) hx) (fun old ho => ?_) (fun e => ?_) (.inl ⟨gotI L o.node, by show getI L (gotI L o.node).node = _; rw [h3.1]; exact hg, rfl⟩)
              · rw [hnode, hg] at ho; injection ho with ho; rw [← ho]
              · rw [show (gotI L o.node).dir = true from e] at h3; cases h3.2
      · exact h
theorem fold_wf {l : List OpD} : ∀ {L : List Item}, Wf L → L.length ≤ 300 → Wf (l.foldl playI L) ∧ (l.foldl playI L).length ≤ 300 := by
  induction l with
  | nil => intro L h hl; exact ⟨h, hl⟩
  | cons o l ih => intro L h hl; exact ih (h.doI hl o) (doI_len h.srt hl)
theorem buildI_wf (os : List OpD) : Wf (buildI os) ∧ (buildI os).length ≤ 300 := fold_wf Wf.nil (by simp)
end Go.Proofs.YtefhfoioeoijlaaGreatDoor
namespace Go.Proofs.YtefhfoioeoijlaaGreatDoor
open Go Go.RowKit Go.Sort
section
variable {P : Program} {d : Option Tmp} {ty : TypeId} {pos : String} {af : Array Edge} {g : Option (Nat × Bool)} {ρ : Operand → Value} {w w' : World}
theorem r_mapUpdate {t : TypeId} {m k v : Operand} {mv kv vv : Value} (hm : ρ m = mv) (hk : ρ k = kv) (hv : ρ v = vv) (h : (Instr.mapUpdate t mv kv vv).run P w = .ok () w') : (execOp ρ ⟨d, .mapUpdate t m k v, ty, pos, af, g⟩).run P w = .ok .skip w' := by
  simp [execOp, hm, hk, hv, h]
end
end Go.Proofs.YtefhfoioeoijlaaGreatDoor
namespace Go.Proofs.YtefhfoioeoijlaaGreatDoor
open Go Go.RowKit Go.Sort
def SubO (B : Nat) (w : World) (v : Value) (L : List OpD) : Prop :=
  ∃ A c, v = .slice A L.length c ∧ (L ≠ [] → ∃ b o ds, A = some ⟨b, o, none⟩ ∧ b < w.heap.size ∧ Pair (fun x d => Dat B w d x.data) L ds ∧ ∀ (j : Nat) (u : Value), (flatO L ds)[j]? = some u → w.cell? ⟨b, o + j, none⟩ = some u)
theorem SubO.up {B : Nat} {w w' : World} {v : Value} {L : List OpD} (h : SubO B w v L) (u : Up w w') : SubO B w' v L := by
  obtain ⟨A, c, rfl, h1⟩ := h
  refine ⟨A, c, rfl, fun hL => ?_⟩
  obtain ⟨b, o, ds, hA, hb, hp, hc⟩ := h1 hL
  exact ⟨b, o, ds, hA, Nat.lt_of_lt_of_le hb u.size, hp.mono fun x d hd => hd.up u, fun j v hj => (u.cell (p := ⟨b, o + j, none⟩) hb).trans (hc j v hj)⟩
theorem flatO_drop : ∀ {L : List OpD} {ds : List Value} (k : Nat), L.length = ds.length → flatO (L.drop k) (ds.drop k) = (flatO L ds).drop (k * 10)
  | [], [], k, _ => by simp [flatO]
  | x :: L, d :: ds, 0, _ => by simp
  | x :: L, d :: ds, k + 1, h => by
    have ih := flatO_drop (L := L) (ds := ds) k (by simpa using h)
    simp only [List.drop_succ_cons, flatO, ih]
    rw [show (k + 1) * 10 = (opC x d).length + k * 10 by simp [opC]; omega, List.drop_length_add_append]
theorem Pair.drop {α β : Type} {R : α → β → Prop} : ∀ {xs : List α} {ys : List β} (k : Nat), Pair R xs ys → Pair R (xs.drop k) (ys.drop k)
  | [], [], k, _ => by simp [Pair]
  | [], _ :: _, _, h => h.elim
  | _ :: _, [], _, h => h.elim
  | x :: xs, y :: ys, 0, h => h
  | x :: xs, y :: ys, k + 1, h => Pair.drop k h.2
theorem ORow.cells {T : TypeId} {B base : Nat} {w : World} {A : Option Addr} {n c : Nat} {L : List OpD} (h : ORow T B base w (.slice A n c) L) (hL : L ≠ []) :
    ∃ g ds, A = some ⟨g, 0, none⟩ ∧ g < w.heap.size ∧ Pair (fun x d => Dat B w d x.data) L ds ∧ ∀ (j : Nat) (u : Value), (flatO L ds)[j]? = some u → w.cell? ⟨g, j, none⟩ = some u := by
  obtain ⟨ds, hp, h1, ⟨e, h0⟩ | ⟨g, cap, cur, e, hb, hg, hc, hm, hcs, htk⟩⟩ := h
  · exact absurd (List.eq_nil_of_length_eq_zero h0) hL
  · injection e with e1 _ _
    refine ⟨g, ds, e1, lt_ob hg, hp, fun j u hj => ?_⟩
    rw [← htk, List.getElem?_take] at hj
    split at hj
    · rw [Array.getElem?_toList] at hj
      simp only [World.cell?, hg]; simpa using hj
    · cases hj
theorem ORow.addr {T : TypeId} {B base : Nat} {w : World} {A : Option Addr} {n c : Nat} {L : List OpD} (h : ORow T B base w (.slice A n c) L) : n = L.length ∧ n ≤ c ∧ (A = none ∧ c = 0 ∨ ∃ g, A = some ⟨g, 0, none⟩) := by
  obtain ⟨ds, hp, h1, ⟨e, h0⟩ | ⟨g, cap, cur, e, hb, hg, hc, hm, hcs, htk⟩⟩ := h
  · injection e with e1 e2 e3
    exact ⟨by omega, by omega, .inl ⟨e1, e3⟩⟩
  · injection e with e1 e2 e3
    exact ⟨by omega, by omega, .inr ⟨g, e1⟩⟩
section
variable {P : Program}
theorem ORow.headCut {T : TypeId} {B base : Nat} {w : World} {A : Option Addr} {n c k : Nat} {L : List OpD} (h : ORow T B base w (.slice A n c) L) (hk : k ≤ n) (t e : TypeId) (hu : P.underlying t = some (.slice e)) (hsz : ∀ w, (sizeOf e).run P w = .ok 10 w) :
    SubO B w (.slice A k c) (L.take k) ∧ ∀ (d : Option Tmp) (ty : TypeId) (pos : String) (af : Array Edge) (gd : Option (Nat × Bool)) (ρ : Operand → Value) (x hi : Operand) (W : World), ρ x = .slice A n c → ρ hi = .int .i64 (k : Int) → (execOp ρ ⟨d, .slice t x none (some hi) none, ty, pos, af, gd⟩).run P W = .ok (.value (.slice A k c)) W := by
  obtain ⟨hn, hnc, hA⟩ := h.addr
  refine ⟨⟨A, c, by rw [List.length_take, Nat.min_eq_left (by omega)], fun hL => ?_⟩, ?_⟩
  · have hL' : L ≠ [] := by rintro rfl; simp at hL
    obtain ⟨g, ds, rfl, hg, hp, hc⟩ := h.cells hL'
    refine ⟨g, 0, ds.take k, rfl, hg, hp.take k, fun j u hj => ?_⟩
    rw [flatO_take k hp.length, List.getElem?_take] at hj
    split at hj
    · rw [Nat.zero_add]; exact hc j u hj
    · cases hj
  · intro d ty pos af gd ρ x hi W hx hhi
    have h1 : (0 : Int) ≤ (k : Int) ∧ (k : Int) ≤ (c : Int) := by omega
    rcases hA with ⟨rfl, rfl⟩ | ⟨g, rfl⟩
    · have : k = 0 := by omega
      subst this
      simp [execOp, hx, hhi, Instr.sliceAt, Instr.slice, Instr.sliceBounds, Instr.sliceBound, asIntOf, run_underlying hu, hsz]
    · exact r_sliceHi hx hhi hu hsz (by omega)
theorem ORow.tailCut {T : TypeId} {B base : Nat} {w : World} {A : Option Addr} {n c k : Nat} {L : List OpD} (h : ORow T B base w (.slice A n c) L) (hk : k ≤ n) (t e : TypeId) (hu : P.underlying t = some (.slice e)) (hsz : ∀ w, (sizeOf e).run P w = .ok 10 w) :
    ∃ A', SubO B w (.slice A' (n - k) (c - k)) (L.drop k) ∧ ∀ (d : Option Tmp) (ty : TypeId) (pos : String) (af : Array Edge) (gd : Option (Nat × Bool)) (ρ : Operand → Value) (x lo : Operand) (W : World), ρ x = .slice A n c → ρ lo = .int .i64 (k : Int) → (execOp ρ ⟨d, .slice t x (some lo) none none, ty, pos, af, gd⟩).run P W = .ok (.value (.slice A' (n - k) (c - k))) W := by
  obtain ⟨hn, hnc, hA⟩ := h.addr
  have h1 : (0 : Int) ≤ (k : Int) ∧ (k : Int) ≤ (n : Int) := by omega
  by_cases hkc : k < c
  · rcases hA with ⟨rfl, rfl⟩ | ⟨g, rfl⟩
    · omega
    · refine ⟨some ⟨g, 0 + k * 10, none⟩, ⟨_, _, by rw [List.length_drop, hn], fun hL => ?_⟩, fun d ty pos af gd ρ x lo W hx hlo => r_sliceLo hx hlo hu hsz hk hkc⟩
      have hL' : L ≠ [] := by rintro rfl; simp at hL
      obtain ⟨g', ds, e, hg, hp, hc⟩ := h.cells hL'
      injection e with e; injection e with e _ _
      subst e
      refine ⟨g, 0 + k * 10, ds.drop k, rfl, hg, hp.drop k, fun j u hj => ?_⟩
      rw [flatO_drop k hp.length, List.getElem?_drop] at hj
      rw [Nat.zero_add]; exact hc _ u hj
  · have hck : c = k := by omega
    refine ⟨A, ⟨_, _, by rw [List.length_drop, hn], fun hL => ?_⟩, fun d ty pos af gd ρ x lo W hx hlo => ?_⟩
    · exact absurd (List.drop_eq_nil_of_le (by omega)) hL
    · simp [execOp, hx, hlo, Instr.sliceAt, Instr.slice, Instr.sliceBounds, Instr.sliceBound, asIntOf, run_underlying hu, hsz, h1, hck, hk]
end
theorem SubO.one {B : Nat} {w : World} {b : Nat} {x : OpD} {d : Value} {T : TypeId} (hb : w.heap[b]? = some (.cells (opC x d).toArray T (0, 0))) (hD : Dat B w d x.data) : SubO B w (.slice (some ⟨b, 0, none⟩) 1 1) [x] := by
  refine ⟨_, _, rfl, fun _ => ⟨b, 0, [d], rfl, lt_ob hb, ⟨hD, trivial⟩, fun j u hj => ?_⟩⟩
  simp only [flatO, List.append_nil] at hj
  have : (opC x d).toArray[j]? = some u := by simpa using hj
  rw [Nat.zero_add]
  simp only [World.cell?, hb]; simpa using this
theorem opC_one {x : OpD} {d u : Value} (hd : d.oneCell' = true) (hu : u ∈ opC x d) : u.oneCell' = true := by
  simp only [opC, List.mem_cons, List.not_mem_nil, or_false] at hu
  rcases hu with rfl | rfl | rfl | rfl | rfl | rfl | rfl | rfl | rfl | rfl <;> first | rfl | exact hd
theorem flatO_one {B : Nat} {w : World} : ∀ {L : List OpD} {ds : List Value}, Pair (fun x d => Dat B w d x.data) L ds → ∀ u ∈ flatO L ds, u.oneCell' = true
  | [], [], _, u, hu => by simp [flatO] at hu
  | [], _ :: _, h, _, _ => h.elim
  | _ :: _, [], h, _, _ => h.elim
  | x :: L, d :: ds, h, u, hu => by
    simp only [flatO] at hu
    rcases List.mem_append.1 hu with hu | hu
    · obtain ⟨A, n, c, rfl⟩ := h.1.form
      exact opC_one rfl hu
    · exact flatO_one h.2 u hu
theorem flatO_app : ∀ {L M : List OpD} {ds es : List Value}, L.length = ds.length → flatO (L ++ M) (ds ++ es) = flatO L ds ++ flatO M es
  | [], M, [], es, _ => by simp [flatO]
  | x :: L, M, d :: ds, es, h => by simp [flatO, flatO_app (L := L) (ds := ds) (by simpa using h)]
theorem Pair.app {α β : Type} {R : α → β → Prop} : ∀ {xs xs' : List α} {ys ys' : List β}, Pair R xs ys → Pair R xs' ys' → Pair R (xs ++ xs') (ys ++ ys')
  | [], _, [], _, _, h => h
  | [], _, _ :: _, _, h, _ => h.elim
  | _ :: _, _, [], _, h, _ => h.elim
  | x :: xs, _, y :: ys, _, h, k => ⟨h.1, Pair.app h.2 k⟩
section
variable {T : TypeId} {ops : Array Oper} {Q : Exit → Act → World → Prop} {a : Act} {w : World} {J : Act → World → Prop} {d : Option Tmp} {ty : TypeId} {pos : String} {af : Array Edge} {gd : Option (Nat × Bool)} {B base : Nat} {L M : List OpD} {t : TypeId} {i : TypeInfo} {z : Value}
theorem litO (hw : Region.wanted (⟨d, .buildSlice t 0 #[], ty, pos, af, gd⟩ : Oper) (yielded ops a.tmps) = true) (ht : Tryz.prog.underlying t = some (.slice T)) (hsz : ∀ w, (sizeOf T).run Tryz.prog w = .ok 10 w) (hbase : base ≤ w.heap.size)
    (k : ∀ b w', b = w.heap.size → w'.heap[b]? = some (.cells #[] T (0, 0)) → ORow T B base w' (.slice (some ⟨b, 0, none⟩) 0 0) [] → Up w w' → J (a.put d (.slice (some ⟨b, 0, none⟩) 0 0)) w') : St1 Tryz.prog ops Q ⟨d, .buildSlice t 0 #[], ty, pos, af, gd⟩ J a w := by
  have hrun : (execOp a.eval ⟨d, .buildSlice t 0 #[], ty, pos, af, gd⟩).run Tryz.prog w = .ok (.value (.slice (some ⟨w.heap.size, 0, none⟩) 0 0)) (w.alloc (.cells #[] T)) := by
    simp [execOp, Instr.buildSlice, run_underlying ht, hsz, Instr.fill, newRow, Array.range_zero']
  exact sv hw hrun (k _ _ rfl (heap_alloc_new w _) ⟨[], trivial, World.ownsRow_lit w #[] 0 hbase (by unfold maxLen; omega) (by simp)⟩ (up_alloc w _))
theorem apO {s y : Operand} {b n c : Nat} {v : Value} (hw : Region.wanted (⟨d, .call ⟨.builtin .append, #[s, y], #[t, t]⟩, ty, pos, af, gd⟩ : Oper) (yielded ops a.tmps) = true) (hs : a.eval s = .slice (some ⟨b, 0, none⟩) n c) (hy : a.eval y = v)
    (h : ORow T B base w (.slice (some ⟨b, 0, none⟩) n c) L) (hM : SubO B w v M) (ht : Tryz.prog.underlying t = some (.slice T)) (hi : Tryz.prog.info? T = some i) (hz : i.zero = some z) (hsize : i.size = 10) (hby : i.bytes = 104) (hzs : z.cells.size = 10) (hT : T ≠ 5) (hB : B ≤ base) (hbase : base ≤ w.heap.size) (hlen : L.length + M.length ≤ 1000000)
    (k : ∀ b' n' c' w', n' = (L ++ M).length → ORow T B base w' (.slice (some ⟨b', 0, none⟩) n' c') (L ++ M) → base ≤ b' → Chg w w' b → J (a.put d (.slice (some ⟨b', 0, none⟩) n' c')) w') : St1 Tryz.prog ops Q ⟨d, .call ⟨.builtin .append, #[s, y], #[t, t]⟩, ty, pos, af, gd⟩ J a w := by
  have hbg := h.ge hB
  obtain ⟨hn, hnc, _, cur, hg, _⟩ := h.blk
  have hk : B ≤ b ∧ NotU8 w b := ⟨hbg, NotU8.of hg hT⟩
  obtain ⟨ds, hp, ho⟩ := h
  rw [← hn] at ho
  obtain ⟨A, c2, rfl, hM⟩ := hM
  by_cases hM0 : M = []
  · subst hM0
    have hrun : (Builtin.append_ #[t, t] ty #[.slice (some ⟨b, 0, none⟩) n c, .slice A 0 c2]).run Tryz.prog w = .ok (.slice (some ⟨b, 0, none⟩) n c) w := by
      cases A <;> simp [Builtin.append_, run_underlying ht, sizeOf, typeInfo, hi, Builtin.lenOf, Builtin.firstCells, hnc, storeCells, loadCells, loadCellsFrom]
    refine sv hw ?_ (k b n c w (by simpa using hn) ⟨ds, by simpa using hp, by rw [List.append_nil, ← hn]; exact ho⟩ ?_ ⟨rfl, rfl, rfl, Nat.le_refl _, fun _ _ _ => rfl⟩)
    · simp only [List.length_nil] at hy
      simp [execOp, resolve, invoke, builtin, hs, hy, hrun]
    · exact (ho.lt b rfl).1
  · obtain ⟨g, o, es, rfl, hgl, hp2, hc⟩ := hM hM0
    obtain ⟨v', w', h1, h2, h3, h4⟩ := run_append_own (P := Tryz.prog) w base t ty T i z 10 104 ht hi hz hsize hby hzs (by decide) _ n (flatO L ds) ho ⟨g, o, none⟩ M.length c2 (flatO M es) (flatO_length hp2.length)
      (fun j u hj => by rw [add_at]; exact hc j u hj) (flatO_one hp2) (by unfold maxLen; omega) (by omega) hbase
    have hnn : v' ≠ .slice none 0 0 := fun e => by have := (h4.1 e).1; cases this
    have hR : ORow T B base w' v' (L ++ M) := ⟨ds ++ es, Pair.app (hp.mono fun x d hd => hd.chg h3 hk) (hp2.mono fun x d hd => hd.chg h3 hk), by rw [flatO_app hp.length, List.length_append, ← hn]; exact h2⟩
    obtain ⟨A', c', rfl⟩ := hR.form
    rcases hR.addr.2.2 with ⟨rfl, rfl⟩ | ⟨b', rfl⟩
    · exfalso
      obtain ⟨_, _, _, ⟨e, h0⟩ | ⟨_, _, _, e, _⟩⟩ := hR
      · exact hnn e
      · cases e
    · refine sv hw ?_ (k b' _ c' w' rfl hR (hR.own b' rfl).1 h3)
      simp [execOp, resolve, invoke, builtin, hs, hy, h1]
end
theorem insO_at {x : OpD} : ∀ {L : List OpD} {k : Nat}, (∀ j y, j < k → L[j]? = some y → ltS y.at_ x.at_ = true) → (k = L.length ∨ ∃ y, L[k]? = some y ∧ ltS y.at_ x.at_ = false ∧ y.at_ ≠ x.at_) → insO L x = L.take k ++ [x] ++ L.drop k
  | [], k, _, _ => by simp [insO]
  | y :: L, 0, _, h => by
    rcases h with h | ⟨z, hz, h1, h2⟩
    · simp at h
    · simp at hz; subst hz
      simp [insO, h1, h2]
  | y :: L, k + 1, hlt, h => by
    have hy := hlt 0 y (by omega) rfl
    have ih := insO_at (x := x) (L := L) (k := k) (fun j z hj hz => hlt (j + 1) z (by omega) (by simpa using hz)) (by
      rcases h with h | ⟨z, hz, h1, h2⟩
      · exact .inl (by simpa using h)
      · exact .inr ⟨z, by simpa using hz, h1, h2⟩)
    rw [insO, if_pos hy, ih]; simp
theorem insO_skip {x : OpD} : ∀ {L : List OpD} {k : Nat} {y : OpD}, (∀ j y, j < k → L[j]? = some y → ltS y.at_ x.at_ = true) → L[k]? = some y → y.at_ = x.at_ → insO L x = L
  | z :: L, 0, y, _, hy, e => by
    simp at hy; subst hy
    simp [insO, e, ltS_irrefl]
  | z :: L, k + 1, y, hlt, hy, e => by
    have hz := hlt 0 z (by omega) rfl
    have ih := insO_skip (x := x) (L := L) (k := k) (y := y) (fun j z hj hz => hlt (j + 1) z (by omega) (by simpa using hz)) (by simpa using hy) e
    rw [insO, if_pos hz, ih]
theorem lt_next {L : List OpD} {k : Nat} {x y : OpD} (h : Hid (∀ (j : Nat) (y : OpD), j < k → L[j]? = some y → ltS y.at_ x.at_ = true)) (hy : L[k]? = some y) (hl : ltS y.at_ x.at_ = true) : Hid (∀ (j : Nat) (y : OpD), j < k + 1 → L[j]? = some y → ltS y.at_ x.at_ = true) := fun j z hj hz => by
  rcases Nat.lt_or_ge j k with h1 | h1
  · exact h.out j z h1 hz
  · obtain rfl : j = k := by omega
    rw [hy] at hz; injection hz with hz; subst hz; exact hl
end Go.Proofs.YtefhfoioeoijlaaGreatDoor
namespace Go.Proofs.YtefhfoioeoijlaaGreatDoor
open Go Go.RowKit Go.Sort
section
variable {P : Program} {d : Option Tmp} {ty : TypeId} {pos : String} {af : Array Edge} {gd : Option (Nat × Bool)} {ρ : Operand → Value} {w : World}
theorem r_rem {t yt : TypeId} {x y : Operand} {m n c : Int} (hx : ρ x = .int .i64 m) (hy : ρ y = .int .i64 n) (hn : n ≠ 0) (hc : Int.tmod m n = c) : (execOp ρ ⟨d, .binOp .rem t x y yt, ty, pos, af, gd⟩).run P w = .ok (.value (.int .i64 c)) w := by
  subst hc
  simp [execOp, hx, hy, eqGuard, binOp, Op.intArith, Op.intDiv, hn]
end
end Go.Proofs.YtefhfoioeoijlaaGreatDoor
set_option linter.unusedVariables false
set_option linter.unusedSimpArgs false
namespace Go.Proofs.YtefhfoioeoijlaaGreatDoor
open Go Go.RowKit Go.Sort
def valD (l : List UInt8) : Nat := l.foldl (fun a c => a * 10 + (c.toNat - 48)) 0
theorem dec_val (u : Nat) : valD (Lib.decDigits u) = u := by
  induction u using Nat.strongRecOn with
  | _ u ih =>
    rw [Lib.decDigits]
    by_cases h : u < 10
    · rw [dif_pos h]
      simp only [valD, List.foldl_cons, List.foldl_nil, UInt8.toNat_ofNat']
      omega
    · rw [dif_neg h]
      have e := ih (u / 10) (by omega)
      unfold valD at e ⊢
      rw [List.foldl_append, e]
      simp only [List.foldl_cons, List.foldl_nil, UInt8.toNat_ofNat']
      omega
theorem dec_digit (u : Nat) : ∀ c ∈ Lib.decDigits u, 48 ≤ c.toNat ∧ c.toNat ≤ 57 := by
  induction u using Nat.strongRecOn with
  | _ u ih =>
    rw [Lib.decDigits]
    by_cases h : u < 10
    · rw [dif_pos h]
      intro c hc
      simp only [List.mem_singleton] at hc
      subst hc
      simp only [UInt8.toNat_ofNat']
      omega
    · rw [dif_neg h]
      intro c hc
      rcases List.mem_append.1 hc with hc | hc
      · exact ih (u / 10) (by omega) c hc
      · simp only [List.mem_singleton] at hc
        subst hc
        simp only [UInt8.toNat_ofNat']
        omega
theorem itoa_pos {n : Int} (h : 0 ≤ n) : Lib.itoa n = Lib.decDigits n.toNat := by unfold Lib.itoa; rw [if_neg (by omega)]
theorem itoa_inj {a b : Int} (ha : 0 ≤ a) (hb : 0 ≤ b) (h : Lib.itoa a = Lib.itoa b) : a = b := by
  rw [itoa_pos ha, itoa_pos hb] at h
  have e := congrArg valD h
  rw [dec_val, dec_val] at e
  omega
theorem itoa_no {n : Int} (h : 0 ≤ n) {c : UInt8} (hc : c.toNat < 48 ∨ 57 < c.toNat) : c ∉ Lib.itoa n := by
  rw [itoa_pos h]
  intro hm
  have := dec_digit _ c hm
  omega
theorem split_by {c : UInt8} : ∀ {a a' b b' : List UInt8}, c ∉ a → c ∉ a' → a ++ c :: b = a' ++ c :: b' → a = a' ∧ b = b'
  | [], [], b, b', _, _, h => by simpa using h
  | [], x :: a', b, b', _, h2, h => by
    simp only [List.nil_append, List.cons_append, List.cons.injEq] at h
    exact absurd (by simp [h.1]) h2
  | x :: a, [], b, b', h1, _, h => by
    simp only [List.nil_append, List.cons_append, List.cons.injEq] at h
    exact absurd (by simp [h.1]) h1
  | x :: a, y :: a', b, b', h1, h2, h => by
    simp only [List.cons_append, List.cons.injEq] at h
    obtain ⟨e1, e2⟩ := split_by (fun hm => h1 (by simp [hm])) (fun hm => h2 (by simp [hm])) h.2
    exact ⟨by rw [h.1, e1], e2⟩
def markB (s : Stamp) : ByteArray := (((⟨#[126]⟩ : ByteArray) ++ (⟨(Lib.itoa s.t).toArray⟩ : ByteArray)) ++ (⟨#[46]⟩ : ByteArray)) ++ (⟨(Lib.itoa s.w).toArray⟩ : ByteArray)
def markL (s : Stamp) : List UInt8 := 126 :: (Lib.itoa s.t ++ 46 :: Lib.itoa s.w)
theorem markB_list (s : Stamp) : (markB s).data.toList = markL s := by simp [markB, markL]
theorem markL_inj {a b : Stamp} (ha : 0 ≤ a.t ∧ 0 ≤ a.w) (hb : 0 ≤ b.t ∧ 0 ≤ b.w) (h : markL a = markL b) : a = b := by
  simp only [markL, List.cons.injEq, true_and] at h
  obtain ⟨e1, e2⟩ := split_by (itoa_no ha.1 (by decide)) (itoa_no hb.1 (by decide)) h
  cases a; cases b
  simp only [Stamp.mk.injEq]
  exact ⟨itoa_inj ha.1 hb.1 e1, itoa_inj ha.2 hb.2 e2⟩
def metB (met : List ByteArray) (s : ByteArray) : Bool := met.any fun m => decide (m = s)
theorem metB_iff {met : List ByteArray} {s : ByteArray} : metB met s = true ↔ s ∈ met := by
  unfold metB
  rw [List.any_eq_true]
  constructor
  · rintro ⟨m, hm, e⟩; rw [← of_decide_eq_true e]; exact hm
  · intro h; exact ⟨s, h, by simp⟩
def entOf (met : List ByteArray) (x : Item) : EntD := ⟨if metB met x.name = true then x.name ++ markB x.node else x.name, x.node, x.dir, x.data.length⟩
def entsF : List ByteArray → List Item → List EntD
  | _, [] => []
  | met, x :: l => entOf met x :: entsF (met ++ [x.name]) l
def entsI (l : List Item) : List EntD := entsF [] l
def namesI (l : List Item) : List ByteArray := l.map (·.name)
theorem entsF_snoc : ∀ {met : List ByteArray} {l : List Item} {x : Item}, entsF met (l ++ [x]) = entsF met l ++ [entOf (met ++ namesI l) x]
  | met, [], x => by simp [entsF, namesI]
  | met, y :: l, x => by
    simp only [List.cons_append, entsF, entsF_snoc (met := met ++ [y.name]) (l := l)]
    simp [namesI, List.append_assoc]
theorem entsI_next {l : List Item} {k : Nat} {x : Item} (h : l[k]? = some x) : entsI (l.take (k + 1)) = entsI (l.take k) ++ [entOf (namesI (l.take k)) x] := by
  unfold entsI
  rw [List.take_add_one, h]
  exact entsF_snoc.trans (by simp)
theorem names_next {l : List Item} {k : Nat} {x : Item} (h : l[k]? = some x) : namesI (l.take (k + 1)) = namesI (l.take k) ++ [x.name] := by
  unfold namesI
  rw [List.take_add_one, h]; simp
theorem entsF_get : ∀ {met : List ByteArray} {l : List Item} {k : Nat} {x : Item}, l[k]? = some x → (entsF met l)[k]? = some (entOf (met ++ namesI (l.take k)) x)
  | met, y :: l, 0, x, h => by simp at h; subst h; simp [entsF, namesI]
  | met, y :: l, k + 1, x, h => by
    have := entsF_get (met := met ++ [y.name]) (l := l) (k := k) (x := x) (by simpa using h)
    simp only [entsF, List.getElem?_cons_succ, this]
    simp [namesI, List.append_assoc]
theorem entsI_get {l : List Item} {k : Nat} {x : Item} (h : l[k]? = some x) : (entsI l)[k]? = some (entOf (namesI (l.take k)) x) := by
  have := entsF_get (met := []) h
  simpa [entsI] using this
theorem entsF_len : ∀ {met : List ByteArray} {l : List Item}, (entsF met l).length = l.length
  | _, [] => rfl
  | met, x :: l => by simp [entsF, entsF_len (met := met ++ [x.name]) (l := l)]
theorem entsI_len (l : List Item) : (entsI l).length = l.length := entsF_len
theorem entsI_at {l : List Item} {k : Nat} {e : EntD} (h : (entsI l)[k]? = some e) : ∃ x, l[k]? = some x ∧ e = entOf (namesI (l.take k)) x := by
  have hk := (List.getElem?_eq_some_iff.1 h).1
  rw [entsI_len] at hk
  have hx : l[k]? = some l[k] := List.getElem?_eq_getElem hk
  refine ⟨_, hx, ?_⟩
  rw [entsI_get hx] at h
  injection h with h
  exact h.symm
def OKI (x : Item) : Prop := (126 : UInt8) ∉ x.name.data.toList ∧ 0 ≤ x.node.t ∧ 0 ≤ x.node.w ∧ x.name.data.toList.length ≤ 24 ∧ x.node.t ≤ 1099511627776 ∧ x.node.w ≤ 8
theorem ba_ext {a b : ByteArray} (h : a.data.toList = b.data.toList) : a = b := by
  cases a; cases b; simp only at h; rw [Array.toList_inj.1 h]
theorem ent_name (met : List ByteArray) (x : Item) : (entOf met x).name.data.toList = if metB met x.name = true then x.name.data.toList ++ markL x.node else x.name.data.toList := by
  unfold entOf
  by_cases h : metB met x.name = true
  · simp only [if_pos h]; rw [← markB_list]; simp
  · simp only [if_neg h]
theorem ents_apart {l : List Item} (hc : ∀ x ∈ l, OKI x) (hd : l.Pairwise fun x y => x.node ≠ y.node) : (entsI l).Pairwise fun x y => x.name ≠ y.name := by
  rw [List.pairwise_iff_getElem]
  intro i j hi hj hij
  obtain ⟨x, hx, ex⟩ := entsI_at (List.getElem?_eq_getElem hi)
  obtain ⟨y, hy, ey⟩ := entsI_at (List.getElem?_eq_getElem hj)
  rw [ex, ey]
  intro e
  have e' := congrArg (fun b => b.data.toList) e
  simp only [ent_name] at e'
  have cx := hc x (List.mem_of_getElem? hx)
  have cy := hc y (List.mem_of_getElem? hy)
  have hmet : x.name = y.name → metB (namesI (l.take j)) y.name = true := fun h => by
    rw [metB_iff]
    unfold namesI
    rw [List.mem_map]
    exact ⟨x, List.mem_of_getElem? (i := i) (by rw [List.getElem?_take, if_pos hij]; exact hx), h⟩
  have hno : ∀ {a b : List UInt8}, (126 : UInt8) ∉ a → a ≠ b ++ 126 :: (Lib.itoa x.node.t ++ 46 :: Lib.itoa x.node.w) := fun h h' => h (by rw [h']; simp)
  have hno' : ∀ {a b : List UInt8}, (126 : UInt8) ∉ a → a ≠ b ++ 126 :: (Lib.itoa y.node.t ++ 46 :: Lib.itoa y.node.w) := fun h h' => h (by rw [h']; simp)
  by_cases mx : metB (namesI (l.take i)) x.name = true
  · by_cases my : metB (namesI (l.take j)) y.name = true
    · rw [if_pos mx, if_pos my] at e'
      obtain ⟨_, h2⟩ := split_by cx.1 cy.1 e'
      have hn := markL_inj ⟨cx.2.1, cx.2.2.1⟩ ⟨cy.2.1, cy.2.2.1⟩ (show markL x.node = markL y.node by unfold markL; rw [h2])
      have hil : i < l.length := by rw [entsI_len] at hi; exact hi
      have hjl : j < l.length := by rw [entsI_len] at hj; exact hj
      have h3 := List.pairwise_iff_getElem.1 hd i j hil hjl hij
      rw [List.getElem?_eq_getElem hil] at hx
      rw [List.getElem?_eq_getElem hjl] at hy
      injection hx with hx
      injection hy with hy
      rw [hx, hy] at h3
      exact h3 hn
    · rw [if_pos mx, if_neg my] at e'
      exact hno cy.1 e'.symm
  · by_cases my : metB (namesI (l.take j)) y.name = true
    · rw [if_neg mx, if_pos my] at e'
      exact hno' cx.1 e'
    · rw [if_neg mx, if_neg my] at e'
      exact my (hmet (ba_ext e'))
theorem ents_nodes {l : List Item} (hd : l.Pairwise fun x y => x.node ≠ y.node) : (entsI l).Pairwise fun x y => x.node ≠ y.node := by
  rw [List.pairwise_iff_getElem]
  intro i j hi hj hij
  obtain ⟨x, hx, ex⟩ := entsI_at (List.getElem?_eq_getElem hi)
  obtain ⟨y, hy, ey⟩ := entsI_at (List.getElem?_eq_getElem hj)
  rw [ex, ey]
  have hil : i < l.length := by rw [entsI_len] at hi; exact hi
  have hjl : j < l.length := by rw [entsI_len] at hj; exact hj
  have h3 := List.pairwise_iff_getElem.1 hd i j hil hjl hij
  rw [List.getElem?_eq_getElem hil] at hx
  rw [List.getElem?_eq_getElem hjl] at hy
  injection hx with hx
  injection hy with hy
  rw [hx, hy] at h3
  exact h3
def ltN (x y : EntD) : Prop := Op.bytesLess x.name.data.toList y.name.data.toList = true
def Listed (E D : List EntD) : Prop := D.Perm E ∧ D.Pairwise ltN
theorem find_one {α β : Type} [DecidableEq β] {f : α → β} {l : List α} (h : l.Pairwise fun x y => f x ≠ f y) {e : α} (he : e ∈ l) : l.find? (fun x => decide (f x = f e)) = some e := by
  induction l with
  | nil => cases he
  | cons z l ih =>
    obtain ⟨h1, h2⟩ := List.pairwise_cons.1 h
    rcases List.mem_cons.1 he with rfl | he'
    · simp
    · have : ¬ f z = f e := h1 _ he'
      simp [this, ih h2 he']
def kidK (L : List Item) (n : Stamp) : Int := if hangsI L 301 n = false then 12 else if (hasI L n && !(gotI L n).dir) = true then 14 else 0
def zeroE : EntD := ⟨⟨#[]⟩, ⟨0, 0⟩, false, 0⟩
def lookE (L : List Item) (n : Stamp) (s : ByteArray) : Option EntD := (entsI (kidsI n L)).find? fun e => decide (e.name = s)
def findE (L : List Item) (n : Stamp) (s : ByteArray) : EntD := if kidK L n = 0 then (lookE L n s).getD zeroE else zeroE
def findK (L : List Item) (n : Stamp) (s : ByteArray) : Int := if kidK L n = 0 then (if (lookE L n s).isSome then 0 else 12) else kidK L n
def nodeE (L : List Item) (m : Stamp) : Option EntD := (entsI (kidsI (gotI L m).parent L)).find? fun e => decide (e.node = m)
def shownB (L : List Item) (m : Stamp) : ByteArray := if (hasI L m && hangsI L 301 m) = true then ((nodeE L m).map (·.name)).getD ⟨#[]⟩ else ⟨#[]⟩
def shownK (L : List Item) (m : Stamp) : Int := if (hasI L m && hangsI L 301 m) = true then (if (nodeE L m).isSome then 0 else 12) else 12
structure Fit (L : List Item) : Prop where
  wf : Wf L
  len : L.length ≤ 300
  ok : ∀ x ∈ L, OKI x
theorem nameB_ok {s : ByteArray} (h : nameB s = true) : (126 : UInt8) ∉ s.data.toList ∧ s.data.toList.length ≤ 24 := by
  unfold nameB at h
  simp only [Bool.and_eq_true, decide_eq_true_eq] at h
  refine ⟨fun hm => ?_, ?_⟩
  · have h1 := h.2.2.2
    unfold nameCh at h1
    have := List.all_eq_true.1 h1 _ hm
    exact absurd this (by decide)
  · have := h.1.2
    simpa using this
theorem stR_ok {s : Stamp} (h : stR s = true) : 0 ≤ s.t ∧ 0 ≤ s.w ∧ s.t ≤ 1099511627776 ∧ s.w ≤ 8 := by
  unfold stR at h
  have := of_decide_eq_true h
  omega
theorem fit_do {L : List Item} (h : Fit L) (o : OpD) : Fit (doI L o).2 := by
  refine ⟨h.wf.doI h.len o, doI_len h.wf.srt h.len, ?_⟩
  unfold doI
  split
  · exact h.ok
  · split
    · exact h.ok
    · rename_i h1 h2
      show ∀ x ∈ (if (nowI L (gotI L o.node) o).2 = true then putI (nowI L (gotI L o.node) o).1 L else L), OKI x
      split
      · rename_i h3
        intro x hx
        rcases mem_put h.wf.srt hx with rfl | ⟨hx, _⟩
        · have hr : rightB o = true := by simpa using h1
          have hs : stR o.node = true := by unfold rightB at hr; simp only [Bool.and_eq_true] at hr; exact hr.2.1
          have hb : bodyB o = true := by unfold rightB at hr; simp only [Bool.and_eq_true] at hr; exact hr.2.2.2.2
          have hn : o.node ≠ nilS := by intro e; rw [e] at hs; cases hs
          have hnode := nowI_node h3
          have hst := stR_ok hs
          have same : (gotI L o.node).node = o.node → OKI (gotI L o.node) := fun e => h.ok _ (getI_some (got_some hn e)).1
          unfold nowI at h3 hnode ⊢
          by_cases k1 : o.kind = 1
          · rw [if_pos k1] at h3 hnode ⊢
            unfold bodyB at hb
            rw [if_pos k1] at hb
            simp only [Bool.and_eq_true] at hb
            have := nameB_ok hb.2.1
            exact ⟨this.1, hst.1, hst.2.1, this.2, hst.2.2.1, hst.2.2.2⟩
          · rw [if_neg k1] at h3 hnode ⊢
            by_cases k2 : o.kind = 2
            · rw [if_pos k2] at h3 hnode ⊢
              unfold bodyB at hb
              rw [if_neg k1, if_pos k2] at hb
              simp only [Bool.and_eq_true] at hb
              have := nameB_ok hb.2
              simp only [Bool.and_eq_true, decide_eq_true_eq] at h3
              have hx := same h3.1
              exact ⟨this.1, hx.2.1, hx.2.2.1, this.2, hx.2.2.2.2.1, hx.2.2.2.2.2⟩
            · rw [if_neg k2] at h3 hnode ⊢
              by_cases k3 : o.kind = 3
              · rw [if_pos k3] at h3 hnode ⊢
                exact same (of_decide_eq_true h3)
              · rw [if_neg k3] at h3 hnode ⊢
                simp only [Bool.and_eq_true, decide_eq_true_eq] at h3
                exact same h3.1
        · exact h.ok x hx
      · exact h.ok
theorem fit_fold : ∀ {l : List OpD} {L : List Item}, Fit L → Fit (l.foldl playI L)
  | [], _, h => h
  | o :: l, _, h => fit_fold (l := l) (fit_do h o)
theorem fit_build (os : List OpD) : Fit (buildI os) := fit_fold ⟨Wf.nil, by simp, by simp⟩
theorem srt_apart {L : List Item} (h : Srt L) : L.Pairwise fun x y => x.node ≠ y.node := h.imp fun h => ltS_ne h
theorem kids_mem {L : List Item} {n : Stamp} {x : Item} : x ∈ kidsI n L ↔ x ∈ L ∧ x.parent = n ∧ x.gone = false := by
  unfold kidsI; simp [List.mem_filter]
theorem Fit.kids {L : List Item} (h : Fit L) (n : Stamp) : (∀ x ∈ kidsI n L, OKI x) ∧ (kidsI n L).Pairwise (fun x y => x.node ≠ y.node) :=
  ⟨fun x hx => h.ok x (kids_mem.1 hx).1, (srt_apart h.wf.srt).sublist List.filter_sublist⟩
theorem Fit.apart {L : List Item} (h : Fit L) (n : Stamp) : (entsI (kidsI n L)).Pairwise fun x y => x.name ≠ y.name := ents_apart (h.kids n).1 (h.kids n).2
theorem Fit.nodes {L : List Item} (h : Fit L) (n : Stamp) : (entsI (kidsI n L)).Pairwise fun x y => x.node ≠ y.node := ents_nodes (h.kids n).2
theorem Fit.found {L : List Item} (h : Fit L) {n : Stamp} (hk : kidK L n = 0) {e : EntD} (he : e ∈ entsI (kidsI n L)) : findE L n e.name = e ∧ findK L n e.name = 0 := by
  have h1 : lookE L n e.name = some e := find_one (f := fun e : EntD => e.name) (h.apart n) he
  unfold findE findK
  rw [if_pos hk, if_pos hk, h1]
  exact ⟨rfl, rfl⟩
theorem Listed.mem {E D : List EntD} (h : Listed E D) {i : Nat} {e : EntD} (hi : D[i]? = some e) : e ∈ E := h.1.mem_iff.1 (List.mem_of_getElem? hi)
end Go.Proofs.YtefhfoioeoijlaaGreatDoor
