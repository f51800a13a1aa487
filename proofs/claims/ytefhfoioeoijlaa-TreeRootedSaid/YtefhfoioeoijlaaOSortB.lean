/- Pieces for the sorts over rows of operations: the row seen by places, cut short, its rest cleared. -/
import Derived.Test.YtefhfoioeoijlaaSortS
set_option linter.unusedVariables false
set_option linter.unusedSimpArgs false
namespace Go.Proofs.Ytefhfoioeoijlaa
open Go Go.RowKit Go.Sort
section
variable {d : Option Tmp} {ty : TypeId} {pos : String} {af : Array Edge} {g : Option (Nat × Bool)} {ρ : Operand → Value} {w : World}
theorem r_toUn {x : Operand} {m : Nat} (hx : ρ x = .int .i64 (m : Int)) (h1 : m ≤ 9223372036854775807) : (execOp ρ ⟨d, .convert 3 145 x, ty, pos, af, g⟩).run Try.prog w = .ok (.value (.int .u64 (m : Int))) w := r_toU hx (by omega) (by omega)
theorem r_toIn {x : Operand} {m : Nat} (hx : ρ x = .int .u64 (m : Int)) (h1 : m ≤ 9223372036854775807) : (execOp ρ ⟨d, .convert 145 3 x, ty, pos, af, g⟩).run Try.prog w = .ok (.value (.int .i64 (m : Int))) w := r_toI hx (by omega) (by omega)
theorem r_halfn {t t' : TypeId} {x y : Operand} {m : Nat} (hx : ρ x = .int .u64 (m : Int)) (hy : ρ y = .int .u64 1) : (execOp ρ ⟨d, .binOp .shr t x y t', ty, pos, af, g⟩).run Try.prog w = .ok (.value (.int .u64 ((m / 2 : Nat) : Int))) w := by
  rw [r_half hx hy]; simp
end
theorem ORow.blk {T : TypeId} {B base : Nat} {w : World} {g n c : Nat} {L : List OpD} (h : ORow T B base w (.slice (some ⟨g, 0, none⟩) n c) L) : n = L.length ∧ n ≤ c ∧ c ≤ maxLen ∧ ∃ cur : Array Value, w.heap[g]? = some (.cells cur T (0, 0)) ∧ cur.size = c * 10 := by
  obtain ⟨ds, hp, h1, ⟨e, _⟩ | ⟨g', cap, cur, e, hb, hg, hc, hm, hcs, htk⟩⟩ := h
  · cases e
  · simp only [Value.slice.injEq, Option.some.injEq, Addr.mk.injEq, and_true, true_and] at e
    obtain ⟨rfl, rfl, rfl⟩ := e
    exact ⟨rfl, hc, hm, cur, hg, hcs⟩
theorem ORow.ge {T : TypeId} {B base : Nat} {w : World} {g n c : Nat} {L : List OpD} (h : ORow T B base w (.slice (some ⟨g, 0, none⟩) n c) L) (hB : B ≤ base) : B ≤ g := by
  have := (h.own g rfl).1; omega
theorem map_set' {f : Nat → OpD} {I : List Nat} {i x : Nat} : (I.map f).set i (f x) = (I.set i x).map f := by simp
theorem map_get' {f : Nat → OpD} {I : List Nat} {i x : Nat} (h : I[i]? = some x) : (I.map f)[i]? = some (f x) := by rw [List.getElem?_map, h]; rfl
theorem ORow.to {T : TypeId} {B base : Nat} {w : World} {v : Value} {L L' : List OpD} (h : ORow T B base w v L) (e : L = L') : ORow T B base w v L' := e ▸ h
theorem cmpS_lt' {a b : Stamp} : cmpS a b < 0 ↔ ltS a b = true := by
  unfold cmpS orI cmpI ltS
  simp only [decide_eq_true_eq]
  repeat' split <;> (try omega)
theorem cmpS_no {a b : Stamp} (h : ¬ cmpS a b < 0) : ltS a b = false := Bool.eq_false_iff.2 fun k => h (cmpS_lt'.2 k)
theorem cmpS_yes {a b : Stamp} (h : cmpS a b < 0) : ltS a b = true := cmpS_lt'.1 h
theorem flatO_take : ∀ {L : List OpD} {ds : List Value} (k : Nat), L.length = ds.length → flatO (L.take k) (ds.take k) = (flatO L ds).take (k * 10)
  | [], [], k, _ => by simp [flatO]
  | _, _, 0, _ => by simp [flatO]
  | x :: L, d :: ds, k + 1, h => by
    have ih := flatO_take (L := L) (ds := ds) k (by simpa using h)
    simp only [List.take_succ_cons, flatO, ih]
    rw [show (k + 1) * 10 = (opC x d).length + k * 10 by simp [opC]; omega, List.take_length_add_append]
theorem Pair.take {α β : Type} {R : α → β → Prop} : ∀ {xs : List α} {ys : List β} (k : Nat), Pair R xs ys → Pair R (xs.take k) (ys.take k)
  | [], [], k, _ => by simp [Pair]
  | [], _ :: _, _, h => h.elim
  | _ :: _, [], _, h => h.elim
  | x :: xs, y :: ys, 0, h => by simp [Pair]
  | x :: xs, y :: ys, k + 1, h => ⟨h.1, Pair.take k h.2⟩
/-- The first k of a row, whatever lies behind. -/
theorem ORow.short {T : TypeId} {B base : Nat} {w : World} {g n c k : Nat} {L : List OpD} (h : ORow T B base w (.slice (some ⟨g, 0, none⟩) n c) L) (hk : k ≤ n) : ORow T B base w (.slice (some ⟨g, 0, none⟩) k c) (L.take k) := by
  obtain ⟨ds, hp, h1, ⟨e, _⟩ | ⟨g', cap, cur, e, hb, hg, hc, hm, hcs, htk⟩⟩ := h
  · cases e
  · simp only [Value.slice.injEq, Option.some.injEq, Addr.mk.injEq, and_true, true_and] at e
    obtain ⟨rfl, rfl, rfl⟩ := e
    have hlk : (L.take k).length = k := by simp; omega
    refine ⟨ds.take k, hp.take k, ?_, .inr ⟨g, c, cur, by rw [hlk], hb, hg, by omega, hm, hcs, ?_⟩⟩
    · rw [flatO_take k hp.length, List.length_take, hlk, h1]; have := Nat.mul_le_mul_right 10 hk; omega
    · rw [flatO_take k hp.length, hlk, ← htk, List.take_take, Nat.min_eq_left (Nat.mul_le_mul_right 10 hk)]
/-- What lies behind the first k has turned. -/
theorem ORow.cleared {T : TypeId} {B base : Nat} {w w' : World} {g n c k : Nat} {L : List OpD} {cur cur' : Array Value} (h : ORow T B base w (.slice (some ⟨g, 0, none⟩) n c) L) (hk : k ≤ n) (hT : T ≠ 5) (hB : B ≤ base) (hg0 : w.heap[g]? = some (.cells cur T (0, 0)))
    (hg' : w'.heap[g]? = some (.cells cur' T (0, 0))) (hs : cur'.size = cur.size) (ht : cur'.toList.take (k * 10) = cur.toList.take (k * 10)) (hC : Chg w w' g) : ORow T B base w' (.slice (some ⟨g, 0, none⟩) k c) (L.take k) := by
  have hlk : (L.take k).length = k := ((h.short hk).blk).1.symm
  obtain ⟨ds, hp, h1, ⟨e, _⟩ | ⟨g', cap, cur0, e, hb, hg, hc, hm, hcs, htk⟩⟩ := h.short hk
  · cases e
  · simp only [Value.slice.injEq, Option.some.injEq, Addr.mk.injEq, and_true, true_and] at e
    obtain ⟨rfl, e2, rfl⟩ := e
    rw [hg0] at hg
    simp only [Option.some.injEq, Obj.cells.injEq, and_true] at hg
    obtain rfl := hg
    refine ⟨ds, hp.mono fun x d hd => hd.chg hC ⟨by omega, NotU8.of hg0 hT⟩, h1, .inr ⟨g, c, cur', by rw [hlk], hb, hg', hc, hm, by rw [hs]; exact hcs, ?_⟩⟩
    rw [hlk] at htk ⊢; rw [ht]; exact htk
end Go.Proofs.Ytefhfoioeoijlaa
