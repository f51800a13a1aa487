/- Deleting and storing in a walk; the tree that has one item set. -/
import Derived.Test.YtefhfoioeoijlaaMapB
import Derived.Test.YtefhfoioeoijlaaPlayP
set_option linter.unusedVariables false
set_option linter.unusedSimpArgs false
namespace Go.Proofs.Ytefhfoioeoijlaa
open Go Go.RowKit Go.Sort


theorem delI_srt {n : Stamp} {L : List Item} (h : Srt L) : Srt (delI n L) := h.filter _
theorem delI_none {n : Stamp} {L : List Item} (h : ∀ x ∈ L, x.node ≠ n) : delI n L = L := List.filter_eq_self.2 fun x hx => by simpa using h x hx
theorem delI_len (n : Stamp) (L : List Item) : (delI n L).length ≤ L.length := List.length_filter_le _ _
theorem erase_filter {n : Stamp} : ∀ {xs : List Item} {j : Nat} {x : Item}, xs[j]? = some x → x.node = n → (∀ y ∈ xs, ∀ z ∈ xs, y.node = z.node → y = z) → xs.Nodup → xs.eraseIdx j = delI n xs
  | [], j, x, h, _, _, _ => by simp at h
  | y :: xs, 0, x, h, hn, hu, hd => by
    simp at h; subst h
    have : delI n xs = xs := delI_none fun z hz e => by
      have := hu y (by simp) z (by simp [hz]) (hn.trans e.symm)
      subst this
      exact (List.nodup_cons.1 hd).1 hz
    unfold delI at this ⊢
    simp only [List.eraseIdx_cons_zero, List.filter_cons, hn]
    simpa using this.symm
  | y :: xs, j + 1, x, h, hn, hu, hd => by
    have h' : xs[j]? = some x := by simpa using h
    have ih := erase_filter h' hn (fun a ha b hb => hu a (by simp [ha]) b (by simp [hb])) (List.nodup_cons.1 hd).2
    have hy : y.node ≠ n := fun e => by
      have := hu y (by simp) x (by simp [List.mem_of_getElem? h']) (e.trans hn.symm)
      subst this
      exact (List.nodup_cons.1 hd).1 (List.mem_of_getElem? h')
    unfold delI at ih ⊢
    simp only [List.eraseIdx_cons_succ, List.filter_cons, ih]
    rw [if_pos (by simpa using hy)]
theorem eraseIdx_sub {α : Type} {l : List α} {j : Nat} {x : α} (h : x ∈ l.eraseIdx j) : x ∈ l := List.mem_of_mem_eraseIdx h

/-- 'delete(m, n)'. -/
theorem MapIs.delete {B : Nat} {w : World} {r : Nat} {L : List Item} (h : MapIs B w r L) (hB : B ≤ r) (n : Stamp) (ty : TypeId) :
    ∃ w', (Builtin.delete_ #[85, 24] ty #[.map (some r), stV n]).run Try.prog w = .ok (.tuple #[]) w' ∧ w.grownBy w' (some r) ∧ MapIs B w' r (delI n L) := by
  have hlt := h.lt
  have hno := h.noCells
  obtain ⟨es, clock, xs, hr, hp, hperm, hs, hnd, hcl⟩ := h
  cases hl : locate n es.toList xs 0 with
  | none =>
    have hnone := (locate_none hp.length).1 hl
    have hg := putMap_grown w r es clock
    refine ⟨putMap w r es clock, ?_, hg, ?_⟩
    · simp [Builtin.delete_, map_under, getObj, setObj, Sem.run, hr, stamp_check, run_findKey n w es.toList xs (keys_of hp), hl, putMap]
    · rw [delI_none fun x hx => hnone x (hperm.mem_iff.2 hx)]
      exact ⟨es, clock, xs, by show (w.heap.setIfInBounds r _)[r]? = _; rw [Array.getElem?_setIfInBounds_self, if_pos hlt], hp.mono fun e x he => he.grown hg hB (fun cs fr => hno cs _ fr), hperm, hs, hnd, hcl⟩
  | some jv =>
    obtain ⟨j, v⟩ := jv
    obtain ⟨k, e, x, hk, he, hx, hn, hv⟩ := locate_some hl
    obtain rfl : j = k := by omega
    have hg := putMap_grown w r (es.eraseIdxIfInBounds j) clock
    have hlist : (es.eraseIdxIfInBounds j).toList = es.toList.eraseIdx j := by simp
    have hxs : xs.Nodup := (hperm.nodup_iff).2 (hs.imp fun {a b} h e => by subst e; rw [ltS_irrefl] at h; cases h)
    have hun : ∀ y ∈ xs, ∀ z ∈ xs, y.node = z.node → y = z := fun y hy z hz e => hs.unique (hperm.mem_iff.1 hy) (hperm.mem_iff.1 hz) e
    refine ⟨putMap w r (es.eraseIdxIfInBounds j) clock, ?_, hg, ?_⟩
    · simp [Builtin.delete_, map_under, getObj, setObj, Sem.run, hr, stamp_check, run_findKey n w es.toList xs (keys_of hp), hl, putMap]
    · refine ⟨_, clock, xs.eraseIdx j, by show (w.heap.setIfInBounds r _)[r]? = _; rw [Array.getElem?_setIfInBounds_self, if_pos hlt], ?_, ?_, delI_srt hs, ?_, ?_⟩
      · rw [hlist]; exact Pair.erase (hp.mono fun e x he => he.grown hg hB (fun cs fr => hno cs _ fr))
      · rw [erase_filter hx hn hun hxs]; exact hperm.filter _
      · rw [hlist]; exact hnd.sublist ((List.eraseIdx_sublist _ _).map _)
      · intro e' he'; rw [hlist] at he'; exact hcl e' (eraseIdx_sub he')
end Go.Proofs.Ytefhfoioeoijlaa

namespace Go.Proofs.Ytefhfoioeoijlaa
open Go Go.RowKit Go.Sort

/-- What Set makes of a tree's items. -/
def setT (it : Item) (there : Bool) (L : List Item) : List Item := if there then putI it L else delI it.node L
section
variable {P : Program} {d : Option Tmp} {ty : TypeId} {pos : String} {af : Array Edge} {g : Option (Nat × Bool)} {ρ : Operand → Value} {w w' : World}
theorem r_mapUpdate {t : TypeId} {m k v : Operand} {mv kv vv : Value} (hm : ρ m = mv) (hk : ρ k = kv) (hv : ρ v = vv) (h : (Instr.mapUpdate t mv kv vv).run P w = .ok () w') : (execOp ρ ⟨d, .mapUpdate t m k v, ty, pos, af, g⟩).run P w = .ok .skip w' := by
  simp [execOp, hm, hk, hv, h]
theorem r_delete {t k : TypeId} {m x : Operand} {mv kv : Value} (hm : ρ m = mv) (hk : ρ x = kv) (h : (Builtin.delete_ #[t, k] ty #[mv, kv]).run P w = .ok (.tuple #[]) w') : (execOp ρ ⟨d, .call { callee := Callee.builtin Builtin.delete, args := #[m, x], argTypes := #[t, k] }, ty, pos, af, g⟩).run P w = .ok (.value (.tuple #[])) w' := by
  simp [execOp, resolve, hm, hk, invoke, builtin, h]
end
theorem TreeIs.put {B : Nat} {w w' : World} {tb r : Nat} {L L' : List Item} (h : TreeIs B w tb r L) (c : Chg w w' r) (hM : MapIs B w' r L') (hl : L'.length ≤ 300) : TreeIs B w' tb r L' := by
  have hne : tb ≠ r := fun e => h.2.2.2.1.noCells _ _ _ (by rw [← e]; exact h.1)
  exact ⟨chg_ob c hne h.1, h.2.1, h.2.2.1, hM, hl⟩
end Go.Proofs.Ytefhfoioeoijlaa
