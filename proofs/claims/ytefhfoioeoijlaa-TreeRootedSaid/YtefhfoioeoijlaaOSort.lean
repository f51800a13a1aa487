/- Pieces for the sorts over rows of operations: halves of sums. -/
import Derived.Test.YtefhfoioeoijlaaSortP
set_option linter.unusedVariables false
set_option linter.unusedSimpArgs false
namespace Go.Proofs.Ytefhfoioeoijlaa
open Go Go.RowKit Go.Sort
section
variable {d : Option Tmp} {ty : TypeId} {pos : String} {af : Array Edge} {g : Option (Nat × Bool)} {ρ : Operand → Value} {w : World}
theorem r_toU {x : Operand} {m : Int} (hx : ρ x = .int .i64 m) (h0 : 0 ≤ m) (h1 : m ≤ 9223372036854775807) : (execOp ρ ⟨d, .convert 3 145 x, ty, pos, af, g⟩).run Try.prog w = .ok (.value (.int .u64 m)) w := by
  have h3 := Try.underlying3
  have h145 := Try.underlying145
  have hw : IntKind.u64.wrap m = m := by simp [IntKind.wrap, IntKind.bits, IntKind.signed]; omega
  simp [execOp, hx, convert, run_underlying h3, run_underlying h145, Conv.intToInt, hw]
theorem r_toI {x : Operand} {m : Int} (hx : ρ x = .int .u64 m) (h0 : 0 ≤ m) (h1 : m ≤ 9223372036854775807) : (execOp ρ ⟨d, .convert 145 3 x, ty, pos, af, g⟩).run Try.prog w = .ok (.value (.int .i64 m)) w := by
  have h3 := Try.underlying3
  have h145 := Try.underlying145
  have hw : IntKind.i64.wrap m = m := IntWalk.i64_in _ (by omega)
  simp [execOp, hx, convert, run_underlying h3, run_underlying h145, Conv.intToInt, hw]
theorem r_half {t t' : TypeId} {x y : Operand} {m : Int} (hx : ρ x = .int .u64 m) (hy : ρ y = .int .u64 1) : (execOp ρ ⟨d, .binOp .shr t x y t', ty, pos, af, g⟩).run Try.prog w = .ok (.value (.int .u64 (m / 2))) w := by
  simp [execOp, hx, hy, eqGuard, binOp, shift_shr_any, IntKind.bits]
end
theorem ORow.elem {T : TypeId} {B base : Nat} {w : World} {g n c : Nat} {L : List OpD} (h : ORow T B base w (.slice (some ⟨g, 0, none⟩) n c) L) {i : Nat} {x : OpD} (hi : L[i]? = some x) :
    ∃ cur dA dn dc, w.heap[g]? = some (.cells cur T (0, 0)) ∧ (cur.toList.drop (i * 10)).take 10 = opC x (.slice dA dn dc) ∧ Dat B w (.slice dA dn dc) x.data := by
  obtain ⟨g', cap, cur, dA, dn, dc, e, _, h1, h2, h3⟩ := h.get hi
  simp only [Value.slice.injEq, Option.some.injEq, Addr.mk.injEq, and_true, true_and] at e
  obtain ⟨rfl, _⟩ := e
  exact ⟨cur, dA, dn, dc, h1, h2, h3⟩
/-- Two elements change places. -/
def sw (L : List OpD) (i j : Nat) : List OpD := (L.set i (L.getD j default)).set j (L.getD i default)
def swapN (L : List OpD) (a b : Nat) : Nat → List OpD
  | 0 => L
  | k + 1 => sw (swapN L a b k) (a + k) (b + k)
theorem sw_is {L : List OpD} {i j : Nat} {x y : OpD} (hx : L[i]? = some x) (hy : L[j]? = some y) : (L.set i y).set j x = sw L i j := by
  simp [sw, List.getD_eq_getElem?_getD, hx, hy]
theorem sw_len (L : List OpD) (i j : Nat) : (sw L i j).length = L.length := by simp [sw]
theorem swapN_len (L : List OpD) (a b : Nat) : ∀ k, (swapN L a b k).length = L.length
  | 0 => rfl
  | k + 1 => by simp [swapN, sw_len, swapN_len L a b k]
end Go.Proofs.Ytefhfoioeoijlaa
