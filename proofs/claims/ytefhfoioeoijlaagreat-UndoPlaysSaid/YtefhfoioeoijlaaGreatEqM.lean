/- Steps over a map's entries; two maps of items compared. -/
import Derived.Test.YtefhfoioeoijlaaGreatRws
set_option linter.unusedVariables false
set_option linter.unusedSimpArgs false
namespace Go.Proofs.YtefhfoioeoijlaaGreat
open Go Go.RowKit Go.Sort Go.Shelf
section
variable {P : Program} {ops : Array Oper} {Q : Exit → Act → World → Prop} {a : Act} {w : World} {J : Act → World → Prop} {d : Option Tmp} {ty : TypeId} {pos : String} {af : Array Edge} {gd : Option (Nat × Bool)}
theorem stRange {t k e : TypeId} {x : Operand} {r : Nat} {es : Array MapEntry} {clock : Nat} (hw : Region.wanted (⟨d, .range t x, ty, pos, af, gd⟩ : Oper) (yielded ops a.tmps) = true) (hx : a.eval x = .map (some r)) (hu : P.underlying t = some (.map k e)) (hr : w.heap[r]? = some (.map es clock))
    (kk : ∀ b w', b = w.heap.size → w'.heap[b]? = some (.mapIter (some r) clock #[] clock) → Up w w' → J (a.put d (.pointer (some ⟨b, 0, none⟩))) w') : St1 P ops Q ⟨d, .range t x, ty, pos, af, gd⟩ J a w := by
  have h := run_range_map (P := P) w t k e r es clock hu hr
  exact sv hw (by simp [execOp, hx, h]) (kk _ _ rfl (heap_alloc_new w _) (up_alloc w _))
theorem stNext {x : Operand} {it r since c0 : Nat} {seen : Array Nat} {es : Array MapEntry} {clock : Nat} (hw : Region.wanted (⟨d, .next x false, ty, pos, af, gd⟩ : Oper) (yielded ops a.tmps) = true) (hx : a.eval x = .pointer (some ⟨it, 0, none⟩)) (hi : w.heap[it]? = some (.mapIter (some r) since seen c0)) (hb : w.heap[r]? = some (.map es clock))
    (hold : ∀ x ∈ es.toList, x.born < since) (hsc : since ≤ c0) (k0 : (leftOf es seen).size = 0 → J (a.put d (.tuple #[.bool false])) w)
    (k1 : ∀ e ∈ (leftOf es seen).toList, ∀ w', w'.heap[it]? = some (.mapIter (some r) since (seen.push e.born) clock) → Chg w w' it → J (a.put d (.tuple #[.bool true, e.key, e.val])) w') : St1 P ops Q ⟨d, .next x false, ty, pos, af, gd⟩ J a w := by
  rcases run_next_at (P := P) w ty it r since c0 seen es clock hi hb hold hsc with ⟨h0, hrun⟩ | ⟨e, he, w1, hrun, h1, hg, _⟩
  · exact sv hw (by simp [execOp, hx, hrun]) (k0 h0)
  · exact sv hw (by simp [execOp, hx, hrun]) (k1 e he w1 h1 hg)
theorem r_entry {ρ : Operand → Value} {x : Operand} {it r since : Nat} {seen : Array Nat} {es : Array MapEntry} {clock : Nat} {e : MapEntry} {u v : Value} (hx : ρ x = .pointer (some ⟨it, 0, none⟩)) (hi : w.heap[it]? = some (.mapIter (some r) since (seen.push e.born) clock)) (hb : w.heap[r]? = some (.map es clock))
    (he : e ∈ es.toList) (hn : (es.toList.map (·.born)).Nodup) (hu : e.key = u) (hv : e.val = v) : (execOp ρ ⟨d, .entry x, ty, pos, af, gd⟩).run P w = .ok (.value (.tuple #[u, v])) w := by
  subst hu; subst hv
  have h := run_entry_at (P := P) w it r since seen es clock e hi hb he hn
  simp [execOp, hx, h]
end
theorem left_mem {es : Array MapEntry} {seen : Array Nat} {e : MapEntry} (h : e ∈ (leftOf es seen).toList) : e ∈ es.toList := by
  unfold leftOf at h; simp at h; simpa using h.1
theorem left_less {es : Array MapEntry} {seen : Array Nat} {e : MapEntry} (hn : (es.toList.map (·.born)).Nodup) (he : e ∈ (leftOf es seen).toList) : (leftOf es (seen.push e.born)).size < (leftOf es seen).size := by
  have := (left_step hn he).length_eq
  simp at this; omega
/-- What a map's entries are. -/
theorem MapIs.ents {B : Nat} {w : World} {r : Nat} {L : List Item} (h : MapIs B w r L) : ∃ es clock ks, w.heap[r]? = some (.map es clock) ∧ Come es ks #[] [] ∧ ks.Perm (L.map (·.node)) ∧ (es.toList.map (·.born)).Nodup ∧ (∀ e ∈ es.toList, e.born < clock) ∧
    ∀ e ∈ es.toList, ∃ x A n c, x ∈ L ∧ e.key = stV x.node ∧ e.val = itV x (.slice A n c) ∧ Dat B w (.slice A n c) x.data := by
  obtain ⟨es, clock, xs, hr, hp, hperm, hs, hn, hc⟩ := h
  refine ⟨es, clock, xs.map (·.node), hr, Come.start ?_, hperm.map _, hn, hc, fun e he => ?_⟩
  · have key : ∀ {l : List MapEntry} {m : List Item}, Pair (Ent B w) l m → KeysOf l (m.map (·.node)) := by
      intro l
      induction l with
      | nil => intro m hm; cases m with
        | nil => exact hm
        | cons _ _ => exact hm.elim
      | cons e l ih => intro m hm; cases m with
        | nil => exact hm.elim
        | cons x m => exact ⟨hm.1.1, ih hm.2⟩
    exact key hp
  · obtain ⟨x, hx, hk, d, hv, hD⟩ := Pair.mem hp he
    obtain ⟨A, n, c, rfl⟩ := hD.form
    exact ⟨x, A, n, c, hperm.mem_iff.1 hx, hk, hv, hD⟩
/-- All that was seen so far is in the other list too. -/
def Both (L M : List Item) (ss : List Stamp) : Prop := ∀ n ∈ ss, ∃ x ∈ L, x.node = n ∧ x ∈ M
theorem Both.next {L M : List Item} {ss : List Stamp} (h : Both L M ss) {x : Item} (hx : x ∈ L) (hs : Srt M) (hh : hasI M x.node = true) (he : x = gotI M x.node) : Both L M (ss ++ [x.node]) := fun n hn => by
  rcases List.mem_append.1 hn with hn | hn
  · exact h n hn
  · simp at hn; subst hn
    refine ⟨x, hx, rfl, ?_⟩
    unfold hasI at hh; unfold gotI at he
    cases hg : getI M x.node with
    | none => rw [hg] at hh; cases hh
    | some y => rw [hg] at he; rw [he]; exact (getI_some hg).1
theorem Both.done {L M : List Item} {ss ks : List Stamp} (h : Both L M ss) (hL : Srt L) (hM : Srt M) (hp : ss.Perm ks) (hk : ks.Perm (L.map (·.node))) (hl : L.length = M.length) : L = M := by
  have hsub : ∀ x ∈ L, x ∈ M := fun x hx => by
    obtain ⟨y, hy, e, hm⟩ := h x.node (hp.mem_iff.2 (hk.mem_iff.2 (List.mem_map.2 ⟨x, hx, rfl⟩)))
    rw [← hL.unique hy hx e]; exact hm
  have hnd : ∀ {K : List Item}, Srt K → K.Nodup := fun hK => hK.imp fun {a b} hab e => by subst e; rw [ltS_irrefl] at hab; cases hab
  refine hL.perm_eq hM ?_
  have key : ∀ {K K' : List Item}, K.Nodup → (∀ x ∈ K, x ∈ K') → K.length = K'.length → K.Perm K' := by
    intro K
    induction K with
    | nil => intro K' _ _ e; cases K' with
      | nil => exact .refl _
      | cons _ _ => simp at e
    | cons x K ih =>
      intro K' hn hs e
      obtain ⟨h1, h2⟩ := List.nodup_cons.1 hn
      have hx := hs x (by simp)
      have := ih (K' := K'.erase x) h2 (fun y hy => (List.mem_erase_of_ne (by rintro rfl; exact h1 hy)).2 (hs y (by simp [hy]))) (by rw [List.length_erase_of_mem hx]; simp at e; omega)
      exact (this.cons x).trans (List.perm_cons_erase hx).symm
  exact key (hnd hL) hsub hl
theorem both_no {L M : List Item} {x : Item} (hx : x ∈ L) (h : hasI M x.node = false) : L ≠ M := by
  rintro rfl
  unfold hasI at h
  cases hg : getI L x.node with
  | some y => rw [hg] at h; cases h
  | none => exact getI_none.1 hg x hx rfl
theorem both_ne {L M : List Item} {x : Item} (hL : Srt L) (hx : x ∈ L) (h : x ≠ gotI M x.node) : L ≠ M := by
  rintro rfl
  apply h; unfold gotI; rw [getI_mem hL hx]; rfl
theorem r_lenM {B : Nat} {w : World} {r : Nat} {L : List Item} {d : Option Tmp} {ty : TypeId} {pos : String} {af : Array Edge} {gd : Option (Nat × Bool)} {ρ : Operand → Value} {x : Operand} (h : MapIs B w r L) (hx : ρ x = .map (some r)) :
    (execOp ρ ⟨d, .call ⟨.builtin .len, #[x], #[86]⟩, ty, pos, af, gd⟩).run Tryz.prog w = .ok (.value (.int .i64 L.length)) w := by
  obtain ⟨es, clock, hr, hes⟩ := h.len
  have hl : (Builtin.len_ #[86] ty #[.map (some r)]).run Tryz.prog w = .ok (.int .i64 L.length) w := by rw [run_len_map w 86 ty r es clock (by kernel_rfl) hr, hes]; rfl
  simp [execOp, resolve, hx, invoke, builtin, hl]
end Go.Proofs.YtefhfoioeoijlaaGreat
