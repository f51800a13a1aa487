/- A map from stamps to items that holds a list of items: look-up, store, delete, length. -/
import Derived.Test.YtefhfoioeoijlaaMap
import Derived.Test.YtefhfoioeoijlaaPure
set_option linter.unusedVariables false
set_option linter.unusedSimpArgs false
namespace Go.Proofs.Ytefhfoioeoijlaa
open Go.RowKit Go.Sort

/-- Block r is a map that holds the items L, each under its stamp. -/
def MapIs (B : Nat) (w : World) (r : Nat) (L : List Item) : Prop :=
  ∃ es clock xs, w.heap[r]? = some (.map es clock) ∧ Pair (Ent B w) es.toList xs ∧ xs.Perm L ∧ Srt L ∧ (es.toList.map (·.born)).Nodup ∧ ∀ e ∈ es.toList, e.born < clock

theorem MapIs.srt {B : Nat} {w : World} {r : Nat} {L : List Item} (h : MapIs B w r L) : Srt L := by obtain ⟨_, _, _, _, _, _, h, _⟩ := h; exact h
theorem MapIs.lt {B : Nat} {w : World} {r : Nat} {L : List Item} (h : MapIs B w r L) : r < w.heap.size := by
  obtain ⟨es, clock, xs, hr, _⟩ := h
  exact (Array.getElem?_eq_some_iff.1 hr).1
theorem MapIs.noCells {B : Nat} {w : World} {r : Nat} {L : List Item} (h : MapIs B w r L) : ∀ cs e fr, w.heap[r]? ≠ some (.cells cs e fr) := by
  obtain ⟨es, clock, xs, hr, _⟩ := h
  intro cs e fr h; rw [hr] at h; cases h
theorem MapIs.keep {B : Nat} {w w' : World} {r : Nat} {L : List Item} (h : MapIs B w r L) (hz : w.heap.size ≤ w'.heap.size) (hr : w'.heap[r]? = w.heap[r]?)
    (hk : ∀ b, b < w.heap.size → (b < B ∨ ∃ cs fr, w.heap[b]? = some (.cells cs 5 fr)) → w'.heap[b]? = w.heap[b]?) : MapIs B w' r L := by
  obtain ⟨es, clock, xs, h1, h2, h3⟩ := h
  exact ⟨es, clock, xs, hr.trans h1, h2.mono fun e x ⟨k, d, hd, hD⟩ => ⟨k, d, hd, hD.keep hz hk⟩, h3⟩
theorem MapIs.up {B : Nat} {w w' : World} {r : Nat} {L : List Item} (h : MapIs B w r L) (hb : Below w.heap.size w w') : MapIs B w' r L :=
  h.keep hb.size (hb.block r h.lt) fun b h1 _ => hb.block b h1
/-- Another block has turned. -/
theorem MapIs.grown {B : Nat} {w w' : World} {r : Nat} {L : List Item} (h : MapIs B w r L) {q : Nat} (hg : w.grownBy w' (some q)) (hq : B ≤ q) (hne : r ≠ q) (hn : ∀ cs fr, w.heap[q]? ≠ some (.cells cs 5 fr)) : MapIs B w' r L :=
  h.keep hg.size (hg.block r h.lt (fun e => hne (by injection e))) fun b h1 h2 => hg.block b h1 (by
    intro e
    injection e with e
    subst e
    rcases h2 with h2 | ⟨cs, fr, h2⟩
    · omega
    · exact hn cs fr h2)

theorem item_zero (w : World) : (zeroValue 35).run Try.prog w = .ok (itV nilI (.slice none 0 0)) w := by kernel_rfl

theorem keys_of {B : Nat} {w : World} {es : List MapEntry} {xs : List Item} (h : Pair (Ent B w) es xs) : Pair (fun e x => e.key = stV x.node) es xs := h.mono fun _ _ h => h.1

theorem getI_perm {L xs : List Item} {n : Stamp} (hs : Srt L) (hp : xs.Perm L) {x : Item} (hx : x ∈ xs) (e : x.node = n) : getI L n = some x := by
  rw [← e]; exact getI_mem hs (hp.mem_iff.1 hx)

/-- 'm[n]', with or without 'ok', in whatever world has that map. -/
theorem MapIs.look {B : Nat} {w : World} {r : Nat} {L : List Item} (h : MapIs B w r L) (n : Stamp) : ∃ d, Dat B w d (gotI L n).data ∧ ∀ W : World, W.heap[r]? = w.heap[r]? →
    (Instr.lookup 85 (.map (some r)) (stV n) true).run Try.prog W = .ok (.tuple #[itV (gotI L n) d, .bool (hasI L n)]) W ∧
    (Instr.lookup 85 (.map (some r)) (stV n) false).run Try.prog W = .ok (itV (gotI L n) d) W := by
  obtain ⟨es, clock, xs, hr, hp, hperm, hs, _, _⟩ := h
  cases hl : locate n es.toList xs 0 with
  | none =>
    have hno := (locate_none hp.length).1 hl
    have hg : getI L n = none := getI_none.2 fun x hx => hno x (hperm.mem_iff.2 hx)
    refine ⟨.slice none 0 0, by unfold gotI; rw [hg]; exact Dat.nil B w, fun W hW => ?_⟩
    have hW' : W.heap[r]? = some (.map es clock) := hW.trans hr
    unfold gotI hasI
    rw [hg]
    constructor <;> (simp [Instr.lookup, map_under, getObj, Sem.run, hW', stamp_check, run_findKey n W es.toList xs (keys_of hp), hl, item_zero]; rfl)
  | some jv =>
    obtain ⟨j, v⟩ := jv
    obtain ⟨k, e, x, hk, he, hx, hn, hv⟩ := locate_some hl
    have hE := hp.get he hx
    obtain ⟨_, d, hd, hD⟩ := hE
    have hg : getI L n = some x := getI_perm hs hperm (List.mem_of_getElem? hx) hn
    refine ⟨d, by unfold gotI; rw [hg]; exact hD, fun W hW => ?_⟩
    have hW' : W.heap[r]? = some (.map es clock) := hW.trans hr
    unfold gotI hasI
    rw [hg]
    have hvv : v = itV x d := by rw [← hv]; exact hd
    constructor <;> simp [Instr.lookup, map_under, getObj, Sem.run, hW', stamp_check, run_findKey n W es.toList xs (keys_of hp), hl, hvv]

theorem MapIs.len {B : Nat} {w : World} {r : Nat} {L : List Item} (h : MapIs B w r L) : ∃ es clock, w.heap[r]? = some (.map es clock) ∧ es.size = L.length := by
  obtain ⟨es, clock, xs, hr, hp, hperm, _⟩ := h
  refine ⟨es, clock, hr, ?_⟩
  rw [← Array.length_toList, hp.length, hperm.length_eq]

theorem perm_erase {α : Type} : ∀ {xs : List α} {j : Nat} {x : α}, xs[j]? = some x → xs.Perm (x :: xs.eraseIdx j)
  | y :: xs, 0, x, h => by simp at h; rw [h]; exact List.Perm.refl _
  | y :: xs, j + 1, x, h => ((perm_erase (xs := xs) (j := j) (by simpa using h)).cons y).trans (List.Perm.swap x y _)
theorem perm_set {α : Type} : ∀ {xs : List α} {j : Nat} {x : α} (y : α), xs[j]? = some x → (xs.set j y).Perm (y :: xs.eraseIdx j)
  | z :: xs, 0, x, y, h => List.Perm.refl _
  | z :: xs, j + 1, x, y, h => ((perm_set (xs := xs) (j := j) y (by simpa using h)).cons z).trans (List.Perm.swap y z _)
theorem set_perm_set {α : Type} {xs L : List α} {j k : Nat} {x : α} (y : α) (hp : xs.Perm L) (hx : xs[j]? = some x) (hL : L[k]? = some x) : (xs.set j y).Perm (L.set k y) := by
  have h1 := (perm_erase hx).symm.trans (hp.trans (perm_erase hL))
  exact (perm_set y hx).trans (((List.Perm.cons_inv h1).cons y).trans (perm_set y hL).symm)

theorem sameBits_stamp (n : Stamp) : Instr.sameBits 10000 (stV n) (stV n) = true := by
  unfold stV
  rw [show (10000 : Nat) = 9998 + 1 + 1 from rfl]
  simp [Instr.sameBits]

/-- The world in which block r is another map. -/
def putMap (w : World) (r : Nat) (es : Array MapEntry) (clock : Nat) : World := { w with heap := w.heap.setIfInBounds r (.map es clock) }
theorem putMap_grown (w : World) (r : Nat) (es : Array MapEntry) (clock : Nat) : w.grownBy (putMap w r es clock) (some r) := by
  refine ⟨rfl, rfl, rfl, by show w.heap.size ≤ (w.heap.setIfInBounds r _).size; simp, fun k hk hne => ?_⟩
  show (w.heap.setIfInBounds r _)[k]? = w.heap[k]?
  rw [Array.getElem?_setIfInBounds_ne (fun e => hne (by rw [e]))]

theorem Ent.grown {B : Nat} {w w' : World} {e : MapEntry} {x : Item} (h : Ent B w e x) {r : Nat} (hg : w.grownBy w' (some r)) (hr : B ≤ r) (hn : ∀ cs fr, w.heap[r]? ≠ some (.cells cs 5 fr)) : Ent B w' e x := by
  obtain ⟨k, d, hd, hD⟩ := h
  exact ⟨k, d, hd, hD.grown hg hr hn⟩

/-- 'm[it.Node] = it'. -/
theorem MapIs.store {B : Nat} {w : World} {r : Nat} {L : List Item} (h : MapIs B w r L) (hB : B ≤ r) (it : Item) (d : Value) (hd : Dat B w d it.data) :
    ∃ w', (Instr.mapUpdate 85 (.map (some r)) (stV it.node) (itV it d)).run Try.prog w = .ok () w' ∧ w.grownBy w' (some r) ∧ MapIs B w' r (putI it L) := by
  have hlt := h.lt
  have hno := h.noCells
  obtain ⟨es, clock, xs, hr, hp, hperm, hs, hnd, hcl⟩ := h
  cases hl : locate it.node es.toList xs 0 with
  | none =>
    have hnone := (locate_none hp.length).1 hl
    have hg := putMap_grown w r (es.push { key := stV it.node, val := itV it d, born := clock }) (clock + 1)
    refine ⟨putMap w r (es.push { key := stV it.node, val := itV it d, born := clock }) (clock + 1), ?_, hg, ?_⟩
    · simp [Instr.mapUpdate, map_under, getObj, setObj, Sem.run, hr, stamp_check, run_findKey it.node w es.toList xs (keys_of hp), hl, putMap]
    · refine ⟨_, _, xs ++ [it], by show (w.heap.setIfInBounds r _)[r]? = _; rw [Array.getElem?_setIfInBounds_self, if_pos hlt], ?_, ?_, hs.putI, ?_, ?_⟩
      · rw [Array.toList_push]
        exact Pair.snoc (hp.mono fun e x he => he.grown hg hB (fun cs fr => hno cs _ fr)) ⟨rfl, d, rfl, hd.grown hg hB (fun cs fr => hno cs _ fr)⟩
      · refine List.Perm.trans ?_ (putI_new (fun x hx => hnone x (hperm.mem_iff.2 hx))).symm
        exact List.perm_append_comm.trans (hperm.cons it)
      · rw [Array.toList_push, List.map_append, List.nodup_append]
        refine ⟨hnd, by simp, fun a ha b hb e => ?_⟩
        obtain ⟨e0, he0, rfl⟩ := List.mem_map.1 ha
        simp at hb
        have := hcl e0 he0
        omega
      · intro e he
        rw [Array.toList_push] at he
        rcases List.mem_append.1 he with he | he
        · have := hcl e he; omega
        · simp at he; rw [he]; simp
  | some jv =>
    obtain ⟨j, v⟩ := jv
    obtain ⟨k, e, x, hk, he, hx, hn, hv⟩ := locate_some hl
    obtain rfl : j = k := by omega
    have hkey : e.key = stV it.node := by rw [← hn]; exact (hp.get he hx).1
    have hj : j < es.size := by have := (List.getElem?_eq_some_iff.1 he).1; simpa using this
    have hej : es[j]? = some e := by rw [← Array.getElem?_toList]; exact he
    have hgj : es[j] = e := (Array.getElem?_eq_some_iff.1 hej).2
    have hmod : (es.modify j fun e => { e with key := stV it.node, val := itV it d }).toList = es.toList.set j { e with key := stV it.node, val := itV it d } := by
      apply List.ext_getElem?
      intro i
      rw [Array.getElem?_toList, Array.getElem?_modify, List.getElem?_set]
      by_cases hi : j = i
      · subst hi
        simp [hej, hj, hgj]
      · simp [hi]
    have hg := putMap_grown w r (es.modify j fun e => { e with key := stV it.node, val := itV it d }) clock
    obtain ⟨k, hk'⟩ := List.mem_iff_getElem?.1 (hperm.mem_iff.1 (List.mem_of_getElem? hx))
    refine ⟨putMap w r (es.modify j fun e => { e with key := stV it.node, val := itV it d }) clock, ?_, hg, ?_⟩
    · simp [Instr.mapUpdate, map_under, getObj, setObj, Sem.run, hr, stamp_check, run_findKey it.node w es.toList xs (keys_of hp), hl, putMap, hej, hkey, Instr.keyThatStays, sameBits_stamp]
    · refine ⟨_, _, xs.set j it, by show (w.heap.setIfInBounds r _)[r]? = _; rw [Array.getElem?_setIfInBounds_self, if_pos hlt], ?_, ?_, hs.putI, ?_, ?_⟩
      · rw [hmod]
        exact Pair.set (hp.mono fun e x he => he.grown hg hB (fun cs fr => hno cs _ fr)) ⟨rfl, d, rfl, hd.grown hg hB (fun cs fr => hno cs _ fr)⟩
      · rw [putI_old hs hk' hn]
        exact set_perm_set it hperm hx hk'
      · rw [hmod, List.map_set]
        have : (es.toList.map (·.born)).set j e.born = es.toList.map (·.born) := by
          apply List.ext_getElem?
          intro i
          rw [List.getElem?_set]
          by_cases hi : j = i
          · subst hi
            simp [hej, hj, hgj]
          · simp [hi]
        show ((es.toList.map (·.born)).set j e.born).Nodup
        rw [this]
        exact hnd
      · intro e' he'
        rw [hmod] at he'
        rcases List.mem_or_eq_of_mem_set he' with h | h
        · exact hcl e' h
        · rw [h]; exact hcl e (List.mem_of_getElem? he)
end Go.Proofs.Ytefhfoioeoijlaa
